import PyProof.Rows.All
import Wide.All
import OpenK.AllK
import Wide.FinOn
import HandS.ForMost
import HandS.More
import KE.KStateDown
import HandS.Base
import HandS.Call
import HandS.Ends
import HandS.Words
import HandS.WordsExc
import HandS.Defaults
import HandS.Head0
import HandS.Head1
import HandS.Head2
import HandS.HeadEnd
import HandS.HeadHook1
import HandS.HeadHook2
import HandS.HeadHook3
import HandS.HeadHook4
import HandS.ExcInit
import HandS.ExcIs
import HandS.ExcField
import PySem.Challenge.RW_provedorshown_k05_whole_claims_and_keys
import HandS.IsInst
import HandS.Codes
import HandS.TupMul
import HandS.ExcCtx
import HandS.Hot
import HandS.HotCalls
import HandS.SetFor
import HandS.Deep
import HandS.Style
import HandS.SortInts
import HandS.Strs
import HandS.TupSets
import HandS.Sort
import HandS.Text
import HandS.TupLe
import HandS.DictComp
import HandS.DeepEq
import HandS.SortKw
import PyProof.MinMaxWalk
import PyProof.WalkInts
import PyProof.Draws
import PyProof.EnumMake
import KE.GoesMore
import HandS.TupAny
import HandS.Conv
set_option Elab.async false
set_option linter.all false
set_option maxRecDepth 100000
set_option maxHeartbeats 1000000
namespace LL
open PySem PySem.Spec PyProof.Rows L2
/-! ### tables of the top: text keys to ints or texts -/
def lookT {α : Type} : List (Str × α) → Str → Option α
  | [], _ => none
  | p :: l, z => if p.1 = z then some p.2 else lookT l z
structure KTabI (K : PySem.W.Frag) (mg : Str → Option Value) (w : World) (x : Str) (l : List (Str × Int)) : Prop where
  ex : ∃ (a : Addr) (es : Array DictEntry) (n : Nat), mg x = some (.ref a) ∧ KDict K w a es n ∧ ∀ z : Str, match lookT l z with | some i => ∃ t, PySem.W.nsIn K a z = some (some (.int i t)) | none => PySem.W.nsIn K a z = some none
structure KTabS (K : PySem.W.Frag) (mg : Str → Option Value) (w : World) (x : Str) (l : List (Str × Str)) : Prop where
  ex : ∃ (a : Addr) (es : Array DictEntry) (n : Nat), mg x = some (.ref a) ∧ KDict K w a es n ∧ ∀ z : Str, match lookT l z with | some i => ∃ t, PySem.W.nsIn K a z = some (some (.str i t)) | none => PySem.W.nsIn K a z = some none
/-- the tables of the rules -/
def cntL : List (Str × Int) := [("axiom", 0), ("no", 0), ("given", 1), ("and left", 1), ("or left", 2), ("if left", 2), ("box left", 1), ("and right", 2), ("or right", 1), ("if right", 1), ("box", 1), ("cut", 2)]
def lftL : List (Str × Str) := [("and left", "and"), ("or left", "or"), ("if left", "if"), ("box left", "box")]
def rgtL : List (Str × Str) := [("and right", "and"), ("or right", "or"), ("if right", "if"), ("box", "box")]
end LL

set_option Elab.async false
set_option linter.all false
set_option maxRecDepth 100000
set_option maxHeartbeats 2000000
/-! the head by the kernel's run: what the top has written, read off as truths of K -/
namespace LH
open PySem PySem.Spec PyProof.Rows L2 LL He
section
variable {P : Program} {K : PySem.W.Frag} {mg : Str → Option Value} {w : World} {h : Heap}
theorem fun_of {x qual : Str} {st : Stmt} {f : Addr} {fd : FuncData} (F : FunD K x qual (defArgs st) (defBody st) (defScope st) [] [] f fd) : Fun K x qual st f fd := by
  obtain ⟨oc, od, dV, kV, doc, pm, an, cdv, ct, osl, rfl, lk, hcd, hD, hK⟩ := F.ex
  rcases hD with ⟨_, rfl⟩ | ⟨e, _⟩
  · exact ⟨⟨oc, od, kV, doc, pm, an, cdv, ct, osl, rfl, lk, hcd⟩, F.kp⟩
  · exact absurd rfl e
/-- a def of the text, as it is looked for -/
def dd (x : Str) (st : Stmt) : DefD := ⟨(x, none), x, x, defArgs st, defBody st, defScope st, [], []⟩
/-- a method -/
def dm (C m : Str) (q : Str) (st : Stmt) : DefD := ⟨(C, some m), m, q, defArgs st, defBody st, defScope st, [], []⟩
theorem int_of (X : K.In h) (G : h.Ns mainGlobals mg) {fa : List Fa} {fn : List DefD} (c : SaysD fa fn K) (i : Nat) {x : Str} {n : Int} (hi : fa[i]? = some (.int x n)) : ∃ t, mg x = some (.int n t) := int_ok X G (c.fact i hi)
/-! ### truths of one's own -/
def allB (l : List (PySem.W.Frag → Bool)) (K : PySem.W.Frag) : Bool := l.all fun b => b K
theorem allB_at {l : List (PySem.W.Frag → Bool)} (e : allB l K = true) (i : Nat) {b : PySem.W.Frag → Bool} (hb : l[i]? = some b) : b K = true := List.all_eq_true.mp e b (List.mem_of_getElem? hb)
/-- a tuple of strings that stands at a name -/
def tupS (x : Str) (xs : List Str) (K : PySem.W.Frag) : Bool := tupB K x (xs.map Dv.str)
theorem tupS_ok {x : Str} {xs : List Str} (e : tupS x xs K = true) (H : Hp) : SqT K H (ga K x) (xs.map V.str) := by
  have q := tupB_ok e H
  rw [List.map_map] at q
  exact q
/-- a dict of strings and ints that stands at a name -/
def relI : List (Str × Int) → List DictEntry → Bool
  | [], [] => true
  | p :: l, e :: r => (match e.key with | .str y _ => decide (y = p.1) | _ => false) && ((match e.val with | .int j _ => decide (j = p.2) | _ => false) && relI l r)
  | _, _ => false
def itemsB (x : Str) (l : List (Str × Int)) (K : PySem.W.Frag) : Bool := match K.lookup (ga K x) with
  | some ⟨_, _, .dict es _, _⟩ => relI l es.toList
  | _ => false
def look : List (Str × Int) → Str → Option Int
  | [], _ => none
  | p :: l, z => if p.1 = z then some p.2 else look l z
theorem rel_find {z : Str} : ∀ {l : List (Str × Int)} {r : List DictEntry}, relI l r = true → (match look l z with | some i => ∃ e t, r.find? (·.key.isStr z) = some e ∧ e.val = .int i t | none => r.find? (·.key.isStr z) = none) ∧ r.any (·.refKey) = false
  | [], [], _ => ⟨rfl, rfl⟩
  | [], _ :: _, e => by cases e
  | _ :: _, [], e => by cases e
  | p :: l, e :: r, q => by
    obtain ⟨q1, q⟩ := ba (show ((match e.key with | .str y _ => decide (y = p.1) | _ => false) && ((match e.val with | .int j _ => decide (j = p.2) | _ => false) && relI l r)) = true from q)
    obtain ⟨q2, q3⟩ := ba q
    obtain ⟨i1, i2⟩ := rel_find (z := z) q3
    have hk : ∃ t, e.key = .str p.1 t := by
      cases k : e.key with
      | str y t =>
        rw [k] at q1
        exact ⟨t, by rw [show y = p.1 from of_decide_eq_true q1]⟩
      | _ => rw [k] at q1; cases q1
    have hv : ∃ t, e.val = .int p.2 t := by
      cases k : e.val with
      | int y t =>
        rw [k] at q2
        exact ⟨t, by rw [show y = p.2 from of_decide_eq_true q2]⟩
      | _ => rw [k] at q2; cases q2
    obtain ⟨t, hk⟩ := hk
    obtain ⟨t2, hv⟩ := hv
    have hs : e.key.isStr z = (p.1 == z) := by rw [hk] <;> rfl
    refine ⟨?_, ?_⟩
    · unfold look
      by_cases ez : p.1 = z
      · rw [if_pos ez]
        refine ⟨e, t2, ?_, hv⟩
        rw [List.find?_cons, hs, beq_iff_eq.mpr ez]
      · rw [if_neg ez]
        have hf : (e :: r).find? (·.key.isStr z) = r.find? (·.key.isStr z) := by
          rw [List.find?_cons, hs]
          have : (p.1 == z) = false := beq_eq_false_iff_ne.mpr ez
          rw [this]
        rw [hf]
        exact i1
    · rw [List.any_cons, i2]
      have : e.refKey = false := by
        unfold DictEntry.refKey
        rw [hk]
      rw [this] <;> rfl
theorem itemsB_ok {x : Str} {l : List (Str × Int)} (e : itemsB x l K = true) (z : Str) : ∃ r, PySem.W.nsIn K (ga K x) z = some r ∧ RelV (match look l z with | some k => V.int k | none => V.non) (r.getD .none) := by
  unfold itemsB at e
  cases q : K.lookup (ga K x) with
  | none => rw [q] at e; cases e
  | some o =>
    obtain ⟨oc, od, dt, sl⟩ := o
    rw [q] at e
    cases dt with
    | dict es n =>
      obtain ⟨f, g⟩ := rel_find (z := z) (show relI l es.toList = true from e)
      unfold PySem.W.nsIn
      rw [q]
      show ∃ r, (match es.toList.find? (·.key.isStr z) with | some e => some (some e.val) | none => if es.toList.any (·.refKey) then none else some none) = some r ∧ _
      rw [g]
      cases k : look l z with
      | none =>
        rw [k] at f
        rw [f]
        exact ⟨none, rfl, rfl⟩
      | some i =>
        rw [k] at f
        obtain ⟨e, t, f1, f2⟩ := f
        rw [f1]
        exact ⟨some e.val, rfl, by rw [f2]; exact ⟨t, rfl⟩⟩
    | _ => cases e
def itemsL : List (Str × Int) := [("letter", 2), ("no", 1), ("and", 3), ("or", 3), ("if", 3), ("box", 2)]
/-! ### tables -/
def relG {α : Type} (vb : α → Value → Bool) : List (Str × α) → List DictEntry → Bool
  | [], [] => true
  | p :: l, e :: r => (match e.key with | .str y _ => decide (y = p.1) | _ => false) && (vb p.2 e.val && relG vb l r)
  | _, _ => false
def tabB {α : Type} (vb : α → Value → Bool) (x : Str) (l : List (Str × α)) (K : PySem.W.Frag) : Bool := match K.lookup (ga K x) with
  | some ⟨_, _, .dict es _, _⟩ => relG vb l es.toList
  | _ => false
def vbI (i : Int) : Value → Bool
  | .int j _ => decide (j = i)
  | _ => false
def vbS (i : Str) : Value → Bool
  | .str j _ => decide (j = i)
  | _ => false
/-! ### errors -/
/-- what a class of errors is, against the others -/
def errB (all errs : List Str) (D : Str) (K : PySem.W.Frag) : Bool :=
  (all.all fun n => decide (PySem.W.kitOne K (.ref (ga K D)) (.ref (ga K n)) = some (decide (n = D)))) && ((errs.all fun n => decide (PySem.W.exmOne K (.ref (ga K D)) (.ref (ga K n)) = some (decide (n = D)))) &&
  (decide (PySem.W.kitOne K (.ref (ga K D)) (.ref (ga K "CourtError")) = some true) && (decide (PySem.W.kitOne K (.ref (ga K D)) (.type "ValueError") = some true) && (decide (PySem.W.exmOne K (.ref (ga K D)) (.ref (ga K "CourtError")) = some true) &&
  (decide (PySem.W.findIn K (.ref (ga K D)) "__getattribute__" = some (some (.builtin "BaseException.__getattribute__"))) && (decide (PySem.W.findIn K (.ref (ga K D)) "__getattr__" = some none) && (decide (PySem.W.subIn K (.ref (ga K D)) (.type "BaseException") = some true) && (PySem.W.hasDictIn K (ga K D) &&
  (decide (PySem.W.findIn K (.ref (ga K D)) "__class__" = some (some (.builtin "object.__class__"))) && (decide (PySem.W.specialIn K (.builtin "object.__class__") "__get__" = some (some (.builtin "getset_descriptor.__get__"))) && (decide (PySem.W.takesIn K (.builtin "object.__class__") = some true) && decide (PySem.W.mroIn K (ga K D) (.type "object") = some true))))))))))))
structure ErrF (K : PySem.W.Frag) (all errs : List Str) (D : Str) : Prop where
  k : ∀ n ∈ all, PySem.W.kitOne K (.ref (ga K D)) (.ref (ga K n)) = some (decide (n = D))
  hX : ∀ n ∈ errs, PySem.W.exmOne K (.ref (ga K D)) (.ref (ga K n)) = some (decide (n = D))
  kC : PySem.W.kitOne K (.ref (ga K D)) (.ref (ga K "CourtError")) = some true
  kV : PySem.W.kitOne K (.ref (ga K D)) (.type "ValueError") = some true
  hC : PySem.W.exmOne K (.ref (ga K D)) (.ref (ga K "CourtError")) = some true
  eD : ExcC K (ga K D)
theorem errB_ok {all errs : List Str} {D : Str} (e : errB all errs D K = true) : ErrF K all errs D := by
  obtain ⟨e1, e⟩ := ba e
  obtain ⟨e2, e⟩ := ba e
  obtain ⟨e3, e⟩ := ba e
  obtain ⟨e4, e⟩ := ba e
  obtain ⟨e5, e⟩ := ba e
  obtain ⟨e6, e⟩ := ba e
  obtain ⟨e7, e⟩ := ba e
  obtain ⟨e8, e⟩ := ba e
  obtain ⟨e9, e⟩ := ba e
  obtain ⟨e10, e⟩ := ba e
  obtain ⟨e11, e⟩ := ba e
  obtain ⟨e12, e13⟩ := ba e
  exact ⟨fun n hn => of_decide_eq_true (List.all_eq_true.mp e1 n hn), fun n hn => of_decide_eq_true (List.all_eq_true.mp e2 n hn), of_decide_eq_true e3, of_decide_eq_true e4, of_decide_eq_true e5,
    ⟨of_decide_eq_true e6, of_decide_eq_true e7, of_decide_eq_true e8, e9, of_decide_eq_true e10, of_decide_eq_true e11, of_decide_eq_true e12, of_decide_eq_true e13⟩⟩
/-- a class of errors that is made without arguments -/
def noaB (D : Str) (K : PySem.W.Frag) : Bool := (Fa.exc D).ok K
/-- a class of errors with an __init__ of its own, its attributes -/
def oexO (K : PySem.W.Frag) (C : Addr) : Bool := match K.lookup C with
  | some ⟨.type "type", _, .cls cd, sl⟩ => (match cd.mro, sl.toList with
    | .ref C' :: bm, [_, _, _, _, some (.builtin n), _] => C' == C && n == "ValueError.__new__" && (!cd.hasDel && (cd.hasDict && PySem.HandSPX.refsVE bm))
    | _, _ => false)
  | _ => false
theorem oexO_ok {C : Addr} (q : oexO K C = true) : ∃ nm q N bs bm sn sub ab col dd k0 k1 k2 k3 k5, K.lookup C = some (excClassObj nm q C N bs bm true sn sub ab col dd k0 k1 k2 k3 k5 "ValueError.__new__") ∧ PySem.HandSPX.refsVE bm = true := by
  unfold oexO at q
  split at q
  · rename_i dd cd sl ho
    split at q
    · rename_i C' bm k0 k1 k2 k3 n k5 hm hs
      simp only [Bool.and_eq_true, beq_iff_eq, Bool.not_eq_true'] at q
      obtain ⟨⟨rfl, rfl⟩, hdel, hdi, ht⟩ := q
      obtain ⟨nm, bs, mro, ns, qn, hd, sn, sub, ab, col, del⟩ := cd
      dsimp only at hm hdel hdi
      subst hm hdel hdi
      have hsl : sl = #[k0, k1, k2, k3, some (.builtin "ValueError.__new__"), k5] := by
        obtain ⟨l⟩ := sl
        simp only at hs
        rw [hs]
      subst hsl
      exact ⟨nm, qn, ns, bs, bm, sn, sub, ab, col, dd, k0, k1, k2, k3, k5, ho, ht⟩
    · cases q
  · cases q
def iniB (D : Str) (ats : List Str) (K : PySem.W.Frag) : Bool :=
  oexO K (ga K D) && (decide (PySem.W.findIn K (.ref (ga K D)) "__setattr__" = some (some (.builtin "object.__setattr__"))) && (decide (PySem.W.subIn K (.ref (ga K D)) (.type "BaseException") = some true) && (decide (PySem.W.typeIn K (.ref (ga K D)) = some (.type "type")) && (PySem.W.keepIn K (.ref (ga K D)) &&
  (decide (PySem.W.findIn K (.ref (ga K D)) "__init__" = some (some (.ref (fAd K (D, some "__init__"))))) && (decide (PySem.W.typeIn K (.ref (fAd K (D, some "__init__"))) = some (.type "function")) && (xfB K (ga K D) && ats.all fun a => decide (PySem.W.findIn K (.ref (ga K D)) a = some none))))))))
structure IniF (K : PySem.W.Frag) (D : Str) (ats : List Str) : Prop where
  O : OexC K (ga K D)
  I : PySem.W.findIn K (.ref (ga K D)) "__init__" = some (some (.ref (fAd K (D, some "__init__"))))
  T : PySem.W.typeIn K (.ref (fAd K (D, some "__init__"))) = some (.type "function")
  X : XfC K (ga K D)
  A : ∀ a ∈ ats, PySem.W.findIn K (.ref (ga K D)) a = some none
theorem iniB_ok {D : Str} {ats : List Str} (e : iniB D ats K = true) : IniF K D ats := by
  obtain ⟨e1, e⟩ := ba e
  obtain ⟨e2, e⟩ := ba e
  obtain ⟨e3, e⟩ := ba e
  obtain ⟨e4, e⟩ := ba e
  obtain ⟨e5, e⟩ := ba e
  obtain ⟨e6, e⟩ := ba e
  obtain ⟨e7, e⟩ := ba e
  obtain ⟨e8, e9⟩ := ba e
  exact ⟨⟨oexO_ok e1, of_decide_eq_true e2, of_decide_eq_true e3, of_decide_eq_true e4, e5⟩, of_decide_eq_true e6, of_decide_eq_true e7, xfB_ok e8, fun a ha => of_decide_eq_true (List.all_eq_true.mp e9 a ha)⟩
/-- the def of a method -/
theorem me_of {fa : List Fa} {fn : List DefD} (c : SaysD fa fn K) (i : Nat) {C m q : Str} {st : Stmt} {ps : List Str} (hd : fn[i]? = some (dm C m q st))
    (hb : ∀ (kV doc pm : Value) (an : Option Addr) (cdv ct : Value) (us : List Value), us.length = ps.length → bindArgs (PySem.W.fnOf m q (defArgs st) (defBody st) (defScope st) .none kV doc pm an cdv ct) ⟨us, []⟩ = pure (ps.zip us)) : ∃ fd, Fun K m q st (fAd K (C, some m)) fd ∧ Binds K fd ps [] := by
  obtain ⟨fd, F⟩ := c.def_ i (d := dm C m q st) hd
  have F' := fun_of F
  exact ⟨fd, F', F'.binds hb⟩
theorem sqT_lit {x : Str} {xs : List Str} (X : K.In h) (G : h.Ns mainGlobals mg) (g : (Fa.glo x).ok K = true) (e : tupS x xs K = true) : ∃ a, mg x = some (.ref a) ∧ ∀ H, SqT K H a (xs.map V.str) := ⟨_, glo_ok X G g, fun H => tupS_ok e H⟩
end
/-! ### the hook: the globals, what the classes hold, the code -/
section
variable {α : Type}
def forceL : List Addr → (List Addr → α) → α
  | [], k => k []
  | a :: r, k => HandSHeadRun.frNat a fun a => forceL r fun r => k (a :: r)
theorem forceL_eq : ∀ (l : List Addr) (k : List Addr → α), forceL l k = k l
  | [], _ => rfl
  | a :: r, k => by
    show HandSHeadRun.frNat a (fun a => forceL r fun r => k (a :: r)) = _
    rw [HandSHeadRun.frNat_eq, forceL_eq r]
def withFr (g : Addr → Option Obj) : List Addr → (PySem.W.Frag → α) → α
  | [], k => k []
  | a :: r, k => match g a with
    | some o => withFr g r fun f => k ((a, o) :: f)
    | none => withFr g r k
theorem withFr_eq {g : Addr → Option Obj} : ∀ (l : List Addr) (k : PySem.W.Frag → α), withFr g l k = k (frG g l)
  | [], _ => rfl
  | a :: r, k => by
    unfold frG
    rw [List.filterMap_cons]
    show (match g a with | some o => withFr g r fun f => k ((a, o) :: f) | none => withFr g r k) = _
    cases g a with
    | none => exact withFr_eq r k
    | some o => exact withFr_eq r _
end
def objRefs (g : Addr → Option Obj) (a : Addr) : List Addr := match g a with
  | some o => refsO o
  | none => []
def step1 (g : Addr → Option Obj) (a : Addr) : List Addr := match g a with
  | some ⟨_, _, .func fd, _⟩ => refV fd.code
  | some ⟨_, _, .cls cd, _⟩ => cd.ns :: objRefs g cd.ns
  | _ => []
def codesO (g : Addr → Option Obj) (a : Addr) : List Addr := match g a with
  | some ⟨_, _, .func fd, _⟩ => refV fd.code
  | _ => []
def withK {α : Type} (g : Addr → Option Obj) (k : PySem.W.Frag → α) : α := forceL (objRefs g mainGlobals) fun gs => forceL (gs.flatMap (step1 g)) fun ms => forceL (ms.flatMap (codesO g)) fun cs => withFr g (mainGlobals :: (gs ++ (ms ++ cs))) k
theorem withK_eq {α : Type} (g : Addr → Option Obj) : ∃ as, ∀ k : PySem.W.Frag → α, withK g k = k (frG g as) := ⟨_, fun k => by
  unfold withK
  rw [forceL_eq, forceL_eq, forceL_eq, withFr_eq]⟩
abbrev AlY : Type := AlT × Bool
def obsY (fa : List Fa) (fn : List DefD) (ts : List He.Tab) (ex : PySem.W.Frag → Bool) (g : Addr → Option Obj) : AlY := withK g fun K => (obsT fa fn ts K, ex K)
structure SaysY (fa : List Fa) (fn : List DefD) (ts : List He.Tab) (ex : PySem.W.Frag → Bool) (w : World) (K : PySem.W.Frag) : Prop where
  t : SaysT fa fn ts w K
  more : ex K = true
def hookY (fa : List Fa) (fn : List DefD) (ts : List He.Tab) (ex : PySem.W.Frag → Bool) : PySem.W.Hook where
  α := AlY
  obs := fun s => obsY fa fn ts ex s.heap.get?
  val := fun w => (valT fn ts w, true)
  says := fun w h => ∃ K : PySem.W.Frag, K.In h ∧ SaysY fa fn ts ex w K
  of := fun _ _ e => by
    obtain ⟨as, q⟩ := withK_eq (α := AlY) _
    have e' := (q _).symm.trans e
    exact ⟨_, frG_in, congrArg (fun z : AlY => z.1) e', congrArg (fun z : AlY => z.2) e'⟩
  keeps := fun _ _ _ ⟨K, hK, c⟩ k => ⟨K, PySem.W.Frag.In.keeps hK k, c⟩
theorem obsY_eq {fa : List Fa} {fn : List DefD} {ts : List He.Tab} {ex : PySem.W.Frag → Bool} {g : Addr → Option Obj} {s : Shared} (h : ∀ a, g a = s.heap.get? a) : obsY fa fn ts ex g = (hookY fa fn ts ex).obs s := by
  have e : g = s.heap.get? := funext h
  rw [e] <;> rfl
end LH

set_option Elab.async false
set_option linter.all false
set_option maxRecDepth 100000
set_option maxHeartbeats 0
namespace K05
open PySem PySem.Spec PyProof.Rows L2 LL
/-! the head: what the kernel reads off the end of the top -/
def top (i : Nat) : Stmt := PySem.Challenge.pw_provedorshown_k05_whole_claims_and_keys.main.body.getD i (.Pass ⟨0, 0, 0, 0⟩)
abbrev s_is_integer : Stmt := top 19
abbrev s_is_between : Stmt := top 20
abbrev s_is_tuple_of : Stmt := top 21
abbrev s_are_any_rows : Stmt := top 22
abbrev s_is_rising : Stmt := top 23
abbrev s_are_rows : Stmt := top 24
abbrev s_check_logic : Stmt := top 31
abbrev s_is_boxed : Stmt := top 32
abbrev s_is_node : Stmt := top 33
abbrev s_wrong_row : Stmt := top 34
abbrev s_check_rows_of : Stmt := top 35
abbrev s_parts : Stmt := top 36
abbrev s_rows_below : Stmt := top 37
abbrev s_check_claim_to : Stmt := top 39
abbrev s_check_claim : Stmt := top 40
abbrev s_is_key : Stmt := top 41
abbrev s_keys_in : Stmt := top 42
abbrev s_rows_of : Stmt := top 43
abbrev s_keys_of : Stmt := top 44
abbrev s_law_stream : Stmt := top 46
abbrev s_law_next : Stmt := top 47
abbrev s_law_pick : Stmt := top 48
abbrev s_law_from : Stmt := top 49
abbrev s_law_some : Stmt := top 50
abbrev s_law_number : Stmt := top 51
abbrev s_law_same : Stmt := top 52
abbrev s_law_copy : Stmt := top 53
abbrev s_law_named : Stmt := top 54
abbrev s_law_row : Stmt := top 55
abbrev s_law_parts : Stmt := top 56
abbrev s_law_below : Stmt := top 57
abbrev s_law_keys : Stmt := top 58
abbrev s_law_claim_keys : Stmt := top 59
abbrev s_law_leaf : Stmt := top 60
abbrev s_law_tree : Stmt := top 61
abbrev s_law_heap : Stmt := top 62
abbrev s_law_raw : Stmt := top 63
abbrev s_law_formula : Stmt := top 64
abbrev s_law_is_boxed : Stmt := top 65
abbrev s_law_is_rows : Stmt := top 66
abbrev s_law_is_node : Stmt := top 67
abbrev s_law_wrong_row : Stmt := top 68
abbrev s_law_line : Stmt := top 69
abbrev s_law_less : Stmt := top 70
abbrev s_law_base : Stmt := top 71
abbrev s_law_part : Stmt := top 72
abbrev s_law_grow_one : Stmt := top 73
abbrev s_law_grow_box : Stmt := top 74
abbrev s_law_grow_two : Stmt := top 75
abbrev s_law_grow : Stmt := top 76
abbrev s_law_grown : Stmt := top 77
abbrev s_law_claim : Stmt := top 78
abbrev s_law_bent : Stmt := top 79
abbrev s_law_reason : Stmt := top 80
abbrev s_law_ask : Stmt := top 81
abbrev s_law_is_answered : Stmt := top 82
abbrev s_law : Stmt := top 83
def hFa0 : List He.Fa := [.glo "is_integer", .glo "is_between", .glo "is_tuple_of", .glo "are_any_rows", .glo "is_rising", .glo "are_rows", .glo "check_logic", .glo "is_boxed", .glo "is_node", .glo "wrong_row", .glo "check_rows_of", .glo "parts", .glo "rows_below", .glo "check_claim_to", .glo "check_claim", .glo "is_key", .glo "keys_in", .glo "rows_of", .glo "keys_of", .glo "_law_stream", .glo "_law_next", .glo "_law_pick", .glo "_law_from", .glo "_law_some", .glo "_law_number", .glo "_law_same", .glo "_law_copy", .glo "_law_named", .glo "_law_row", .glo "_law_parts"]
def hFa1 : List He.Fa := [.glo "_law_below", .glo "_law_keys", .glo "_law_claim_keys", .glo "_law_leaf", .glo "_law_tree", .glo "_law_heap", .glo "_law_raw", .glo "_law_formula", .glo "_law_is_boxed", .glo "_law_is_rows", .glo "_law_is_node", .glo "_law_wrong_row", .glo "_law_line", .glo "_law_less", .glo "_law_base", .glo "_law_part", .glo "_law_grow_one", .glo "_law_grow_box", .glo "_law_grow_two", .glo "_law_grow", .glo "_law_grown", .glo "_law_claim", .glo "_law_bent", .glo "_law_reason", .glo "_law_ask", .glo "_law_is_answered", .glo "law", .free "ValueError", .free "abs", .free "all"]
def hFa2 : List He.Fa := [.free "bool", .free "dict", .free "enumerate", .free "int", .free "isinstance", .free "len", .free "list", .free "min", .free "range", .free "set", .free "sorted", .free "str", .free "tuple", .glo "ITEMS", .int "LAST_LETTER" 7, .int "MOST_ROWS" 60, .glo "LOGICS", .glo "MODAL", .glo "CourtError", .glo "BadLogic", .glo "BadSheet", .glo "BadClaim", .glo "BadModel", .glo "BadPaper", .glo "BadTerm", .glo "BadEdit", .glo "BadValue", .glo "BadText", .glo "BadSize", .glo "TooMany"]
def hFa3 : List He.Fa := [.glo "NotBoxed", .glo "NotProved", .glo "NotThere", .glo "NothingToUndo", .glo "NothingToRedo", .exc "BadLogic"]
def hFa : List He.Fa := hFa0 ++ hFa1 ++ hFa2 ++ hFa3
def hFn0 : List He.DefD := [LH.dd "is_integer" s_is_integer, LH.dd "is_between" s_is_between, LH.dd "is_tuple_of" s_is_tuple_of, LH.dd "are_any_rows" s_are_any_rows, LH.dd "is_rising" s_is_rising, LH.dd "are_rows" s_are_rows, LH.dd "check_logic" s_check_logic, LH.dd "is_boxed" s_is_boxed, LH.dd "is_node" s_is_node, LH.dd "wrong_row" s_wrong_row, LH.dd "check_rows_of" s_check_rows_of, LH.dd "parts" s_parts, LH.dd "rows_below" s_rows_below, LH.dd "check_claim_to" s_check_claim_to, LH.dd "check_claim" s_check_claim, LH.dd "is_key" s_is_key, LH.dd "keys_in" s_keys_in, LH.dd "rows_of" s_rows_of, LH.dd "keys_of" s_keys_of, LH.dd "_law_stream" s_law_stream, LH.dd "_law_next" s_law_next, LH.dd "_law_pick" s_law_pick, LH.dd "_law_from" s_law_from, LH.dd "_law_some" s_law_some, LH.dd "_law_number" s_law_number, LH.dd "_law_same" s_law_same, LH.dd "_law_copy" s_law_copy, LH.dd "_law_named" s_law_named, LH.dd "_law_row" s_law_row, LH.dd "_law_parts" s_law_parts]
def hFn1 : List He.DefD := [LH.dd "_law_below" s_law_below, LH.dd "_law_keys" s_law_keys, LH.dd "_law_claim_keys" s_law_claim_keys, LH.dd "_law_leaf" s_law_leaf, LH.dd "_law_tree" s_law_tree, LH.dd "_law_heap" s_law_heap, LH.dd "_law_raw" s_law_raw, LH.dd "_law_formula" s_law_formula, LH.dd "_law_is_boxed" s_law_is_boxed, LH.dd "_law_is_rows" s_law_is_rows, LH.dd "_law_is_node" s_law_is_node, LH.dd "_law_wrong_row" s_law_wrong_row, LH.dd "_law_line" s_law_line, LH.dd "_law_less" s_law_less, LH.dd "_law_base" s_law_base, LH.dd "_law_part" s_law_part, LH.dd "_law_grow_one" s_law_grow_one, LH.dd "_law_grow_box" s_law_grow_box, LH.dd "_law_grow_two" s_law_grow_two, LH.dd "_law_grow" s_law_grow, LH.dd "_law_grown" s_law_grown, LH.dd "_law_claim" s_law_claim, LH.dd "_law_bent" s_law_bent, LH.dd "_law_reason" s_law_reason, LH.dd "_law_ask" s_law_ask, LH.dd "_law_is_answered" s_law_is_answered, LH.dd "law" s_law, LH.dm "BadSheet" "__init__" "BadSheet.__init__" (inClass (top 3) 0), LH.dm "BadClaim" "__init__" "BadClaim.__init__" (inClass (top 4) 0)]
def hFn : List He.DefD := hFn0 ++ hFn1
def hTs : List He.Tab := [(fun K => He.ga K "ITEMS", ["letter", "no", "and", "or", "if", "box"])]
def hEx0 : List (PySem.W.Frag → Bool) := [LH.itemsB "ITEMS" LH.itemsL, LH.tupS "LOGICS" ["classical", "intuit", "k", "s4", "gl"], LH.tupS "MODAL" ["k", "s4", "gl"], LH.errB ["BadLogic", "BadSheet", "BadClaim", "BadModel", "BadPaper", "BadTerm", "BadEdit", "BadValue", "BadText", "BadSize", "TooMany", "NotBoxed", "NotProved", "NotThere", "NothingToUndo", "NothingToRedo"] ["BadLogic", "BadSheet", "BadClaim"] "BadLogic", LH.errB ["BadLogic", "BadSheet", "BadClaim", "BadModel", "BadPaper", "BadTerm", "BadEdit", "BadValue", "BadText", "BadSize", "TooMany", "NotBoxed", "NotProved", "NotThere", "NothingToUndo", "NothingToRedo"] ["BadLogic", "BadSheet", "BadClaim"] "BadSheet", LH.iniB "BadSheet" ["row"], LH.errB ["BadLogic", "BadSheet", "BadClaim", "BadModel", "BadPaper", "BadTerm", "BadEdit", "BadValue", "BadText", "BadSize", "TooMany", "NotBoxed", "NotProved", "NotThere", "NothingToUndo", "NothingToRedo"] ["BadLogic", "BadSheet", "BadClaim"] "BadClaim", LH.iniB "BadClaim" ["word"]]
def hEx : List (PySem.W.Frag → Bool) := hEx0
abbrev hR : PySem.W.OpenRow := PySem.W.OpenLaw.row PySem.Challenge.rw_provedorshown_k05_whole_claims_and_keys
abbrev hk : PySem.W.Hook := LH.hookY hFa hFn hTs (LH.allB hEx)
def hOb (s : PySem.W.SharedT) : LH.AlY := LH.obsY hFa hFn hTs (LH.allB hEx) (HandSHeadRun.getT s)
theorem hOb_eq (s : PySem.W.SharedT) : hOb s = hk.obs s.abs := LH.obsY_eq (HandSHeadRun.getT_eq s)
def hNames0 : List Str := ["__name__", "CourtError", "BadLogic", "BadSheet", "BadClaim", "BadModel", "BadPaper", "BadTerm", "BadEdit", "BadValue", "BadText", "BadSize", "TooMany", "NotBoxed", "NotProved", "NotThere", "NothingToUndo", "NothingToRedo", "is_integer", "is_between", "is_tuple_of", "are_any_rows", "is_rising", "are_rows", "LOGICS", "MODAL", "ITEMS", "LAST_LETTER", "MOST_ROWS", "check_logic"]
def hNames1 : List Str := ["is_boxed", "is_node", "wrong_row", "check_rows_of", "parts", "rows_below", "check_claim_to", "check_claim", "is_key", "keys_in", "rows_of", "keys_of", "_law_stream", "_law_next", "_law_pick", "_law_from", "_law_some", "_law_number", "_law_same", "_law_copy", "_law_named", "_law_row", "_law_parts", "_law_below", "_law_keys", "_law_claim_keys", "_law_leaf", "_law_tree", "_law_heap", "_law_raw"]
def hNames2 : List Str := ["_law_formula", "_law_is_boxed", "_law_is_rows", "_law_is_node", "_law_wrong_row", "_law_line", "_law_less", "_law_base", "_law_part", "_law_grow_one", "_law_grow_box", "_law_grow_two", "_law_grow", "_law_grown", "_law_claim", "_law_bent", "_law_reason", "_law_ask", "_law_is_answered"]
def hNames : List Str := hNames0 ++ hNames1 ++ hNames2
abbrev hQ : Program := PySem.W.view hR.prog [83]
theorem hRun_false (w : World) : HandSHeadRun.RunEq hR hQ hk hOb 20000 hNames (w.withFollow "special-get-raises" false) := by
  intro os
  kernel_rfl
theorem hRun_true (w : World) : HandSHeadRun.RunEq hR hQ hk hOb 20000 hNames (w.withFollow "special-get-raises" true) := by
  intro os
  kernel_rfl
theorem hRun (w : World) : HandSHeadRun.RunEq hR hQ hk hOb 20000 hNames w := PySem.W.byRow2 "special-get-raises" (P := fun w => HandSHeadRun.RunEq hR hQ hk hOb 20000 hNames w) hRun_false hRun_true w
theorem hAny (call : PySem.W.WalkO hQ hNames (PySem.W.XL hQ []) hk.says hR.toRowW (HandSHeadRun.topDef hR.prog 83) [] fun f vs => PySem.call f vs) : hR.Holds := by
  refine HandSHeadRun.head_any (r := hR) (q := hQ) (H := hk) (ob := hOb) (M := 20000) (loose := hNames) (d := HandSHeadRun.topDef hR.prog 83) (kwd := []) hOb_eq
    (by kernel_rfl) (fun s => by kernel_rfl) hRun (by kernel_rfl) (by kernel_rfl) (by kernel_rfl) (by rfl) (by first | assumption | decide +kernel) (by decide +kernel) ⟨rfl, rfl, rfl, rfl, rfl, by decide +kernel⟩ ?hw call
  case hw => w_witness2
theorem hEnd (call : PySem.W.WalkO hQ hNames (PySem.W.XL hQ []) hk.says hR.toRowW (HandSHeadRun.topDef hR.prog 83) [] fun f vs => PySem.call f vs) : PySem.Challenge.rw_provedorshown_k05_whole_claims_and_keys.Holds := by
  w_on; o_law
  exact hAny call
theorem hName : (HandSHeadRun.topDef hR.prog 83).name = ("law" : PySem.Str) := by kernel_rfl
end K05

set_option Elab.async false
set_option linter.all false
set_option maxRecDepth 100000
set_option maxHeartbeats 4000000
/-! LLib: what the proofs of several laws share. Heaps that grow while the addresses of M may change; plain data; the spec of a sheet. -/
namespace LL
open PySem PySem.Spec PyProof.Rows L2

theorem iteB {b : Bool} {A B : Prop} (h1 : b = true → A) (h2 : b = false → B) : if b = true then A else B := by
  cases b with
  | true => rw [if_pos rfl]; exact h1 rfl
  | false => rw [if_neg Bool.false_ne_true]; exact h2 rfl
theorem iteY {b : Bool} {A B : Prop} (hb : b = true) (h : A) : if b = true then A else B := by rw [if_pos hb]; exact h
theorem iteN {b : Bool} {A B : Prop} (hb : b = false) (h : B) : if b = true then A else B := by rw [hb, if_neg Bool.false_ne_true]; exact h

/-! ### heaps -/
def Adv (M : List Addr) (H H' : Hp) : Prop := ∀ b o, b ∉ M → H b = some o → H' b = some o
section
variable {M N : List Addr} {H H1 H2 H' : Hp} {p : Addr} {o u : HO}
theorem Adv.refl (M : List Addr) (H : Hp) : Adv M H H := fun _ _ _ h => h
theorem Adv.trans (a : Adv M H H1) (b : Adv M H1 H2) : Adv M H H2 := fun c o hc h => b c o hc (a c o hc h)
theorem Adv.more (a : Adv M H H') (h : ∀ b ∈ M, b ∈ N) : Adv N H H' := fun c o hc e => a c o (fun z => hc (h c z)) e
theorem Adv.new (h : H p = none) : Adv M H (upd H p o) := fun b u _ e => by
  rw [upd_ne (ne_of_none e h)]
  exact e
theorem Adv.set (h : p ∈ M) : Adv M H (upd H p o) := fun b u hb e => by
  rw [upd_ne (fun z => hb (by rw [z]; exact h))]
  exact e
theorem Adv.newT (a : Adv M H H1) (h : H1 p = none) : Adv M H (upd H1 p o) := a.trans (Adv.new h)
theorem Adv.setT (a : Adv M H H1) (h : p ∈ M) : Adv M H (upd H1 p o) := a.trans (Adv.set h)
/-- a change at an address that H does not know -/
theorem Adv.mut (a : Adv M H H1) (h : H p = none) : Adv M H (upd H1 p o) := fun b u hb e => by
  rw [upd_ne (ne_of_none e h)]
  exact a b u hb e
theorem Adv.free (a : Adv M H H') (hp : p ∉ M) (h : H' p = none) : H p = none := by
  cases q : H p with
  | none => rfl
  | some o =>
    rw [a p o hp q] at h
    cases h
theorem Adv.same (a : Adv [] H H') : Same H H' := fun b o e => a b o (by simp) e
theorem Adv.get (a : Adv M H H') (e : H p = some o) (hp : p ∉ M) : H' p = some o := a p o hp e
/-- M's last address is new: it need not be told -/
theorem Adv.drop (a : Adv (p :: M) H H') (h : H p = none) : Adv M H H' := fun b u hb e => a b u (fun z => by
  rcases List.mem_cons.mp z with z | z
  · rw [z, h] at e; cases e
  · exact hb z) e
end
theorem ne_lst_ints {l : Addr} {c k : Int} {ns : List Int} : HO.lst [V.ref l, .int c, .int k] ≠ HO.lst (ns.map V.int) := by
  intro e
  have e2 : [V.ref l, .int c, .int k] = ns.map V.int := by injection e
  cases ns with
  | nil => cases e2
  | cons n r =>
    rw [List.map_cons] at e2
    injection e2 with h _
    cases h

/-! ### plain data -/
/-- the tuples of the written part (they never change), and how a key of parts is hashed -/
class KW where
  tp : Addr → List V → Prop
  hs : List Key → Int
/-- a tuple: tracked, or one of the written part -/
def Tp [KW] (M : List Addr) (H : Hp) (a : Addr) (vs : List V) : Prop := (a ∉ M ∧ H a = some (.tup vs)) ∨ KW.tp a vs
section
variable [KW]
mutual
def Is (M : List Addr) (H : Hp) : PyData → V → Prop
  | .none, v => v = .non
  | .bool b, v => v = .bl b
  | .int i, v => v = .int i
  | .str x, v => v = .str x
  | .list ds, v => ∃ a vs, v = .ref a ∧ a ∉ M ∧ H a = some (.lst vs) ∧ IsDs M H ds vs
  | .tuple ds, v => ∃ a vs, v = .ref a ∧ Tp M H a vs ∧ IsDs M H ds vs
  | .dict kvs, v => kvs = [] ∧ ∃ a, v = .ref a ∧ a ∉ M ∧ H a = some (.dK [])
def IsDs (M : List Addr) (H : Hp) : List PyData → List V → Prop
  | [], vs => vs = []
  | d :: ds, vs => ∃ v r, vs = v :: r ∧ Is M H d v ∧ IsDs M H ds r
end
section
variable {M N : List Addr} {H H' : Hp} {p : Addr}
theorem Tp.imp (h : ∀ b o, b ∉ M → H b = some o → b ∉ N ∧ H' b = some o) {a : Addr} {vs : List V} (x : Tp M H a vs) : Tp N H' a vs := by
  rcases x with ⟨na, ha⟩ | x
  · exact .inl ⟨(h a _ na ha).1, (h a _ na ha).2⟩
  · exact .inr x
theorem Tp.adv {a : Addr} {vs : List V} (x : Tp M H a vs) (e : Adv M H H') : Tp M H' a vs := x.imp fun b o hb z => ⟨hb, e b o hb z⟩
theorem Tp.less {a : Addr} {vs : List V} (x : Tp M H a vs) (h : ∀ b ∈ N, b ∈ M) : Tp N H a vs := x.imp fun b o hb z => ⟨fun y => hb (h b y), z⟩
theorem Tp.fresh {a : Addr} {vs : List V} (x : Tp M H a vs) (h : H p = none) : Tp (p :: M) H a vs := x.imp fun b o hb e => ⟨fun z => (List.mem_cons.mp z).elim (ne_of_none e h) hb, e⟩
theorem Tp.of {a : Addr} {vs : List V} (h : H a = some (.tup vs)) (na : a ∉ M) : Tp M H a vs := .inl ⟨na, h⟩
mutual
theorem Is.imp (h : ∀ b o, b ∉ M → H b = some o → b ∉ N ∧ H' b = some o) : ∀ (d : PyData) (v : V), Is M H d v → Is N H' d v
  | .none, v, x => by unfold Is at x ⊢; exact x
  | .bool _, v, x => by unfold Is at x ⊢; exact x
  | .int _, v, x => by unfold Is at x ⊢; exact x
  | .str _, v, x => by unfold Is at x ⊢; exact x
  | .list ds, v, x => by
    unfold Is at x ⊢
    obtain ⟨a, vs, rfl, na, ha, hs⟩ := x
    exact ⟨a, vs, rfl, (h a _ na ha).1, (h a _ na ha).2, IsDs.imp h ds vs hs⟩
  | .tuple ds, v, x => by
    unfold Is at x ⊢
    obtain ⟨a, vs, rfl, ha, hs⟩ := x
    exact ⟨a, vs, rfl, ha.imp h, IsDs.imp h ds vs hs⟩
  | .dict kvs, v, x => by
    unfold Is at x ⊢
    obtain ⟨rfl, a, rfl, na, ha⟩ := x
    exact ⟨rfl, a, rfl, (h a _ na ha).1, (h a _ na ha).2⟩
theorem IsDs.imp (h : ∀ b o, b ∉ M → H b = some o → b ∉ N ∧ H' b = some o) : ∀ (ds : List PyData) (vs : List V), IsDs M H ds vs → IsDs N H' ds vs
  | [], vs, x => by unfold IsDs at x ⊢; exact x
  | d :: ds, vs, x => by
    unfold IsDs at x ⊢
    obtain ⟨v, r, rfl, h1, h2⟩ := x
    exact ⟨v, r, rfl, Is.imp h d v h1, IsDs.imp h ds r h2⟩
end
theorem Is.adv {d : PyData} {v : V} (x : Is M H d v) (a : Adv M H H') : Is M H' d v := Is.imp (fun b o hb e => ⟨hb, a b o hb e⟩) d v x
theorem IsDs.adv {ds : List PyData} {vs : List V} (x : IsDs M H ds vs) (a : Adv M H H') : IsDs M H' ds vs := IsDs.imp (fun b o hb e => ⟨hb, a b o hb e⟩) ds vs x
theorem Is.less {d : PyData} {v : V} (x : Is M H d v) (h : ∀ b ∈ N, b ∈ M) : Is N H d v := Is.imp (fun b o hb e => ⟨fun z => hb (h b z), e⟩) d v x
theorem IsDs.less {ds : List PyData} {vs : List V} (x : IsDs M H ds vs) (h : ∀ b ∈ N, b ∈ M) : IsDs N H ds vs := IsDs.imp (fun b o hb e => ⟨fun z => hb (h b z), e⟩) ds vs x
theorem Is.fresh {d : PyData} {v : V} (x : Is M H d v) (h : H p = none) : Is (p :: M) H d v := Is.imp (fun b o hb e => ⟨fun z => (List.mem_cons.mp z).elim (ne_of_none e h) hb, e⟩) d v x
theorem IsDs.fresh {ds : List PyData} {vs : List V} (x : IsDs M H ds vs) (h : H p = none) : IsDs (p :: M) H ds vs := IsDs.imp (fun b o hb e => ⟨fun z => (List.mem_cons.mp z).elim (ne_of_none e h) hb, e⟩) ds vs x
theorem IsDs.len : ∀ {ds : List PyData} {vs : List V}, IsDs M H ds vs → vs.length = ds.length
  | [], vs, x => by unfold IsDs at x; rw [x]; rfl
  | d :: ds, vs, x => by
    unfold IsDs at x
    obtain ⟨v, r, rfl, _, h2⟩ := x
    rw [List.length_cons, List.length_cons, h2.len]
theorem IsDs.get : ∀ {ds : List PyData} {vs : List V} {i : Nat} {d : PyData}, IsDs M H ds vs → ds[i]? = some d → ∃ v, vs[i]? = some v ∧ Is M H d v
  | [], vs, i, d, x, e => by simp at e
  | c :: ds, vs, 0, d, x, e => by
    unfold IsDs at x
    obtain ⟨v, r, rfl, h1, h2⟩ := x
    have e' : c = d := Option.some.inj e
    subst e'
    exact ⟨v, rfl, h1⟩
  | c :: ds, vs, i + 1, d, x, e => by
    unfold IsDs at x
    obtain ⟨v, r, rfl, h1, h2⟩ := x
    exact h2.get (i := i) (by simpa using e)
theorem IsDs.getV : ∀ {ds : List PyData} {vs : List V} {i : Nat} {v : V}, IsDs M H ds vs → vs[i]? = some v → ∃ d, ds[i]? = some d ∧ Is M H d v := fun {ds vs i v} x e => by
  have hi : i < ds.length := by rw [← x.len]; exact (List.getElem?_eq_some_iff.mp e).1
  obtain ⟨w, e2, h⟩ := x.get (List.getElem?_eq_getElem hi)
  rw [e] at e2
  cases e2
  exact ⟨_, List.getElem?_eq_getElem hi, h⟩
theorem IsDs.app : ∀ {ds es : List PyData} {vs ws : List V}, IsDs M H ds vs → IsDs M H es ws → IsDs M H (ds ++ es) (vs ++ ws)
  | [], es, vs, ws, x, y => by unfold IsDs at x; subst x; exact y
  | d :: ds, es, vs, ws, x, y => by
    unfold IsDs at x
    obtain ⟨v, r, rfl, h1, h2⟩ := x
    show IsDs M H (d :: (ds ++ es)) (v :: (r ++ ws))
    unfold IsDs
    exact ⟨v, r ++ ws, rfl, h1, h2.app y⟩
theorem IsDs.one {d : PyData} {v : V} (x : Is M H d v) : IsDs M H [d] [v] := by
  unfold IsDs
  exact ⟨v, [], rfl, x, by unfold IsDs; rfl⟩
theorem IsDs.nil : IsDs M H [] [] := by unfold IsDs; rfl
theorem IsDs.cons {d : PyData} {v : V} {ds : List PyData} {vs : List V} (x : Is M H d v) (y : IsDs M H ds vs) : IsDs M H (d :: ds) (v :: vs) := by
  unfold IsDs
  exact ⟨v, vs, rfl, x, y⟩
theorem IsDs.set : ∀ {ds : List PyData} {vs : List V} {i : Nat} {d : PyData} {v : V}, IsDs M H ds vs → Is M H d v → IsDs M H (ds.set i d) (vs.set i v)
  | [], vs, i, d, v, x, y => by unfold IsDs at x; subst x; exact .nil
  | c :: ds, vs, 0, d, v, x, y => by
    unfold IsDs at x
    obtain ⟨w, r, rfl, h1, h2⟩ := x
    exact .cons y h2
  | c :: ds, vs, i + 1, d, v, x, y => by
    unfold IsDs at x
    obtain ⟨w, r, rfl, h1, h2⟩ := x
    exact .cons h1 (h2.set y)
theorem IsDs.drop : ∀ {ds : List PyData} {vs : List V} (i : Nat), IsDs M H ds vs → IsDs M H (ds.drop i) (vs.drop i)
  | ds, vs, 0, x => x
  | [], vs, i + 1, x => by unfold IsDs at x; subst x; exact .nil
  | c :: ds, vs, i + 1, x => by
    unfold IsDs at x
    obtain ⟨w, r, rfl, h1, h2⟩ := x
    exact h2.drop i
theorem Is.int {i : Int} : Is M H (.int i) (.int i) := by unfold Is; rfl
theorem Is.str {x : Str} : Is M H (.str x) (.str x) := by unfold Is; rfl
theorem Is.bl {b : Bool} : Is M H (.bool b) (.bl b) := by unfold Is; rfl
theorem Is.non : Is M H .none .non := by unfold Is; rfl
theorem Is.lst {a : Addr} {ds : List PyData} {vs : List V} (h : H a = some (.lst vs)) (hn : a ∉ M) (x : IsDs M H ds vs) : Is M H (.list ds) (.ref a) := by
  unfold Is
  exact ⟨a, vs, rfl, hn, h, x⟩
theorem Is.tup {a : Addr} {ds : List PyData} {vs : List V} (h : H a = some (.tup vs)) (hn : a ∉ M) (x : IsDs M H ds vs) : Is M H (.tuple ds) (.ref a) := by
  unfold Is
  exact ⟨a, vs, rfl, .inl ⟨hn, h⟩, x⟩
theorem Is.tp {a : Addr} {ds : List PyData} {vs : List V} (h : Tp M H a vs) (x : IsDs M H ds vs) : Is M H (.tuple ds) (.ref a) := by
  unfold Is
  exact ⟨a, vs, rfl, h, x⟩
theorem Is.dic {a : Addr} (h : H a = some (.dK [])) (hn : a ∉ M) : Is M H (.dict []) (.ref a) := by
  unfold Is
  exact ⟨rfl, a, rfl, hn, h⟩
theorem Is.intE {i : Int} {v : V} (x : Is M H (.int i) v) : v = .int i := by unfold Is at x; exact x
theorem Is.strE {i : Str} {v : V} (x : Is M H (.str i) v) : v = .str i := by unfold Is at x; exact x
theorem Is.blE {i : Bool} {v : V} (x : Is M H (.bool i) v) : v = .bl i := by unfold Is at x; exact x
theorem Is.nonE {v : V} (x : Is M H .none v) : v = .non := by unfold Is at x; exact x
theorem Is.lstE {ds : List PyData} {v : V} (x : Is M H (.list ds) v) : ∃ a vs, v = .ref a ∧ a ∉ M ∧ H a = some (.lst vs) ∧ IsDs M H ds vs := by unfold Is at x; exact x
theorem Is.tupE {ds : List PyData} {v : V} (x : Is M H (.tuple ds) v) : ∃ a vs, v = .ref a ∧ Tp M H a vs ∧ IsDs M H ds vs := by unfold Is at x; exact x
theorem Is.dicE {kvs : List (PyData × PyData)} {v : V} (x : Is M H (.dict kvs) v) : kvs = [] ∧ ∃ a, v = .ref a ∧ a ∉ M ∧ H a = some (.dK []) := by unfold Is at x; exact x
end
end
mutual
/-- how many values a datum has, itself among them -/
def sz : PyData → Nat
  | .list ds => 1 + szL ds
  | .tuple ds => 1 + szL ds
  | _ => 1
def szL : List PyData → Nat
  | [] => 0
  | d :: ds => sz d + szL ds
end
mutual
def dep : PyData → Nat
  | .list ds => 1 + depL ds
  | .tuple ds => 1 + depL ds
  | _ => 0
def depL : List PyData → Nat
  | [] => 0
  | d :: ds => max (dep d) (depL ds)
end
theorem sz_pos : ∀ d : PyData, 1 ≤ sz d
  | .none => by unfold sz; exact Nat.le_refl _
  | .bool _ => by unfold sz; exact Nat.le_refl _
  | .int _ => by unfold sz; exact Nat.le_refl _
  | .str _ => by unfold sz; exact Nat.le_refl _
  | .list ds => by unfold sz; omega
  | .tuple ds => by unfold sz; omega
  | .dict _ => by unfold sz; exact Nat.le_refl _
theorem szL_nil : szL [] = 0 := by rw [szL]
theorem szL_cons (d : PyData) (ds : List PyData) : szL (d :: ds) = sz d + szL ds := by rw [szL]
theorem szL_app : ∀ ds es : List PyData, szL (ds ++ es) = szL ds + szL es
  | [], es => by rw [List.nil_append, szL_nil, Nat.zero_add]
  | d :: ds, es => by rw [List.cons_append, szL_cons, szL_cons, szL_app ds es, Nat.add_assoc]
theorem dep_mem : ∀ {ds : List PyData} {d : PyData}, d ∈ ds → dep d ≤ depL ds
  | c :: ds, d, h => by
    unfold depL
    rcases List.mem_cons.mp h with e | h
    · rw [e]; exact Nat.le_max_left _ _
    · exact Nat.le_trans (dep_mem h) (Nat.le_max_right _ _)

/-! ### the stream of draws -/
/-- a stream stands at s: the script's copy (none of M), the cell's rest, the next cell's number -/
def StrAt (M : List Addr) (H : Hp) (s : Addr) : Prop := ∃ (l : Addr) (ns : List Int) (c k : Int), H s = some (.lst [V.ref l, .int c, .int k]) ∧ H l = some (.lst (ns.map V.int)) ∧ 0 ≤ c ∧ 0 ≤ k ∧ l ∉ M
section
variable {M N : List Addr} {H H' : Hp} {s p : Addr}
theorem StrAt.adv (x : StrAt M H s) (a : Adv N H H') (hs : s ∉ N) (hn : ∀ b ∈ N, b ∈ M) : StrAt M H' s := by
  obtain ⟨l, ns, c, k, h1, h2, h3, h4, h5⟩ := x
  exact ⟨l, ns, c, k, a _ _ hs h1, a _ _ (fun z => h5 (hn l z)) h2, h3, h4, h5⟩
theorem StrAt.same (x : StrAt M H s) (a : Adv [] H H') : StrAt M H' s := x.adv a (by simp) (fun b z => by simp at z)
theorem StrAt.fresh (x : StrAt M H s) (h : H p = none) : StrAt (p :: M) H s := by
  obtain ⟨l, ns, c, k, h1, h2, h3, h4, h5⟩ := x
  exact ⟨l, ns, c, k, h1, h2, h3, h4, fun z => (List.mem_cons.mp z).elim (ne_of_none h2 h) h5⟩
theorem StrAt.less (x : StrAt M H s) (h : ∀ b ∈ N, b ∈ M) : StrAt N H s := by
  obtain ⟨l, ns, c, k, h1, h2, h3, h4, h5⟩ := x
  exact ⟨l, ns, c, k, h1, h2, h3, h4, fun z => h5 (h l z)⟩
theorem StrAt.here (x : StrAt M H s) : H s ≠ none := by
  obtain ⟨l, ns, c, k, h1, _⟩ := x
  rw [h1]
  simp
end

/-! ### defs -/
/-- a def of the text where it stands behind the top -/
structure Df (K : PySem.W.Frag) (mg : Str → Option Value) (x : Str) (st : Stmt) (ps : List Str) where
  f : Addr
  fd : FuncData
  F : Fun K x x st f fd
  m : mg x = some (.ref f)
  b : Binds K fd ps []
theorem ix_or {X : Cx} {r r' : R2} (h : IxR X r) (h' : IxR X r') : IxR X (fun x y H Q => r x y H Q ∨ r' x y H Q) := by
  intro value slice pins s σ H x y v u Q I rx ry q e
  rcases q with q | q
  · exact h value slice pins s σ H x y v u Q I rx ry q e
  · exact h' value slice pins s σ H x y v u Q I rx ry q e
theorem call_or {X : Cx} {f : Value} {r r' : List V → Hp → VK → Prop} (h : CallR X f r) (h' : CallR X f r') : CallR X f (fun xs H Q => r xs H Q ∨ r' xs H Q) := by
  intro pins s σ H xs us Q I rx q
  rcases q with q | q
  · exact h pins s σ H xs us Q I rx q
  · exact h' pins s σ H xs us Q I rx q
theorem ix_any {X : Cx} (K : PySem.W.Frag) (h : X.K = K) : IxR X (fun x y H Q => rIxL K x y H Q ∨ rIxT K x y H Q) := by
  subst h
  exact ix_or ix_list ix_tup
end LL

set_option Elab.async false
set_option linter.all false
set_option maxRecDepth 100000
set_option maxHeartbeats 4000000
/-! LSpec: kinds of data; what a node and a sheet are -/
namespace LL
open PySem PySem.Spec PyProof.Rows L2
def tyN : PyData → String
  | .none => "NoneType"
  | .bool _ => "bool"
  | .int _ => "int"
  | .str _ => "str"
  | .list _ => "list"
  | .tuple _ => "tuple"
  | .dict _ => "dict"
/-- what the written part says of the tuples and of the hash -/
structure KWOk [KW] (K : PySem.W.Frag) (w : World) : Prop where
  tp : ∀ a vs, KW.tp a vs → ∃ (o : Obj) (its : Array Value) (n : Nat), K.lookup a = some o ∧ o.cls = .type "tuple" ∧ o.data = .seq its n ∧ its.size ≤ sizeLine ∧ Vals vs its.toList
  hs : ∀ (P : Program) (ks : List Key), KW.hs ks = (tupleKind (mixKind P w)).hash ks
section
variable [KW]
theorem Tp.sq {K : PySem.W.Frag} {w : World} (W : KWOk K w) {M : List Addr} {H : Hp} {a : Addr} {vs : List V} (x : Tp M H a vs) : SqT K H a vs := by
  rcases x with ⟨_, h⟩ | h
  · exact SqT.of h
  · exact .inr (W.tp a vs h)
theorem Is.ty {K : PySem.W.Frag} {w : World} (W : KWOk K w) {M : List Addr} {H : Hp} : ∀ {d : PyData} {v : V}, Is M H d v → TyX K H v (.type (tyN d))
  | .none, v, x => by rw [x.nonE]; exact .base .non
  | .bool _, v, x => by rw [x.blE]; exact .base (.bl _)
  | .int _, v, x => by rw [x.intE]; exact .base (.int _)
  | .str _, v, x => by rw [x.strE]; exact .base (.str _)
  | .list _, v, x => by
    obtain ⟨a, vs, rfl, _, h, _⟩ := x.lstE
    exact .base (.lst h)
  | .tuple _, v, x => by
    obtain ⟨a, vs, rfl, h, _⟩ := x.tupE
    rcases h with ⟨_, h⟩ | h
    · exact .base (.tup h)
    · obtain ⟨o, its, n, h1, h2, _⟩ := W.tp a vs h
      exact .kTuple h1 h2
  | .dict _, v, x => by
    obtain ⟨_, a, rfl, _, h⟩ := x.dicE
    exact .base (.dK h)
end
/-- isinstance(v, one of the six built-in kinds) -/
def kitD (d : PyData) (n : String) : Bool := match d with
  | .bool _ => n == "bool" || n == "int"
  | d => n == tyN d
theorem kit_one {K : PySem.W.Frag} (d : PyData) (n : String) (h : n = "int" ∨ n = "bool" ∨ n = "str" ∨ n = "list" ∨ n = "tuple" ∨ n = "dict") : PySem.W.kitOne K (.type (tyN d)) (.type n) = some (kitD d n) := by
  refine kit_ty ?_
  have fin : ∀ t ∈ ["NoneType", "bool", "int", "str", "list", "tuple", "dict"], ∀ n ∈ ["int", "bool", "str", "list", "tuple", "dict"], kitB t n = some (if t = "bool" then (n == "bool" || n == "int") else n == t) := by decide +kernel
  have hn : n ∈ ["int", "bool", "str", "list", "tuple", "dict"] := by simpa using h
  cases d with
  | bool b => exact fin "bool" (by simp) n hn
  | none => exact fin "NoneType" (by simp) n hn
  | int i => exact fin "int" (by simp) n hn
  | str i => exact fin "str" (by simp) n hn
  | list i => exact fin "list" (by simp) n hn
  | tuple i => exact fin "tuple" (by simp) n hn
  | dict i => exact fin "dict" (by simp) n hn
theorem k_int {K : PySem.W.Frag} (d : PyData) : PySem.W.kitOne K (.type (tyN d)) (.type "int") = some (kitD d "int") := kit_one d "int" (by simp)
theorem k_bool {K : PySem.W.Frag} (d : PyData) : PySem.W.kitOne K (.type (tyN d)) (.type "bool") = some (kitD d "bool") := kit_one d "bool" (by simp)
theorem k_str {K : PySem.W.Frag} (d : PyData) : PySem.W.kitOne K (.type (tyN d)) (.type "str") = some (kitD d "str") := kit_one d "str" (by simp)
theorem k_list {K : PySem.W.Frag} (d : PyData) : PySem.W.kitOne K (.type (tyN d)) (.type "list") = some (kitD d "list") := kit_one d "list" (by simp)
theorem k_tuple {K : PySem.W.Frag} (d : PyData) : PySem.W.kitOne K (.type (tyN d)) (.type "tuple") = some (kitD d "tuple") := kit_one d "tuple" (by simp)
theorem k_dict {K : PySem.W.Frag} (d : PyData) : PySem.W.kitOne K (.type (tyN d)) (.type "dict") = some (kitD d "dict") := kit_one d "dict" (by simp)
/-! ### nodes -/
def isNum (lo hi : Int) : PyData → Bool
  | .int i => decide (lo ≤ i) && decide (i ≤ hi)
  | _ => false
/-- how many items a node of this word has -/
def nItems (w : Str) : Option Nat :=
  if w = "letter" then some 2 else if w = "no" then some 1 else if w = "and" then some 3 else if w = "or" then some 3 else if w = "if" then some 3 else if w = "box" then some 2 else none
def nodeB (boxed : Bool) (row : Int) : PyData → Bool
  | .tuple (.str w :: ps) => if nItems w = some (ps.length + 1) then (if w = "letter" then ps.all (isNum 0 7) else if w = "box" && !boxed then false else ps.all (isNum 0 (row - 1))) else false
  | _ => false
/-- a node as a key -/
def keyD : PyData → Key
  | .int i => .inl i
  | .str x => .inr x
  | _ => .inl 0
def keysD : PyData → List Key
  | .tuple ds => ds.map keyD
  | _ => []
/-- the first wrong row behind row at, whose earlier nodes are seen -/
def memK (k : List Key) (l : List (List Key)) : Bool := l.any fun x => decide (x = k)
def wrongF (most : Int) (boxed : Bool) : Int → List (List Key) → List PyData → Option Int
  | _, _, [] => none
  | at_, seen, d :: ds => if at_ < most then (if nodeB boxed at_ d then (if memK (keysD d) seen = true then some at_ else wrongF most boxed (at_ + 1) (seen ++ [keysD d]) ds) else some at_) else some at_
def wrongD (most : Int) (boxed : Bool) : PyData → Option Int
  | .list ds => wrongF most boxed 0 [] ds
  | _ => some (-1)
section
variable [KW]
theorem node_keys {boxed : Bool} {row : Int} {d : PyData} {v : V} {M : List Addr} {H : Hp} (x : Is M H d v) (h : nodeB boxed row d = true) : ∃ a, v = .ref a ∧ Tp M H a ((keysD d).map kV) := by
  unfold nodeB at h
  split at h
  · rename_i w ps
    obtain ⟨a, vs, rfl, ha, hs⟩ := x.tupE
    refine ⟨a, rfl, ?_⟩
    have hall : ∀ p ∈ ps, ∃ i, p = .int i := by
      have num : ∀ lo hi, ps.all (isNum lo hi) = true → ∀ p ∈ ps, ∃ i, p = PyData.int i := fun lo hi hh p hp => by
        have q := List.all_eq_true.mp hh p hp
        cases p with
        | int i => exact ⟨i, rfl⟩
        | _ => cases q
      split at h
      · split at h
        · exact num _ _ h
        · split at h
          · cases h
          · exact num _ _ h
      · cases h
    have key : ∀ (ds : List PyData) (vs : List V), (∀ p ∈ ds, ∃ i, p = PyData.int i) → IsDs M H ds vs → vs = (ds.map keyD).map kV := by
      intro ds
      induction ds with
      | nil => intro vs _ y; unfold IsDs at y; exact y
      | cons c ds ih =>
        intro vs hh y
        unfold IsDs at y
        obtain ⟨u, r, rfl, h1, h2⟩ := y
        obtain ⟨i, rfl⟩ := hh c (by simp)
        rw [h1.intE, ih r (fun p hp => hh p (by simp [hp])) h2]
        rfl
    unfold IsDs at hs
    obtain ⟨u, r, rfl, h1, h2⟩ := hs
    rw [h1.strE, key ps r hall h2] at ha
    exact ha
  · cases h
end
end LL

set_option Elab.async false
set_option linter.all false
set_option maxRecDepth 100000
set_option maxHeartbeats 4000000
/-! LMore: a written dict's get; comprehensions that map -/
namespace LL
open PySem PySem.Spec PyProof.Rows L2
variable [KW]
theorem SqT.adv {K : PySem.W.Frag} {H H' : Hp} {a : Addr} {xs : List V} (e : Adv [] H H') (h : SqT K H a xs) : SqT K H' a xs := by
  rcases h with (h | ⟨o, h⟩) | h
  · exact .inl (.inl (e.same _ _ h))
  · exact .inl (.inr ⟨o, e.same _ _ h⟩)
  · exact .inr h
theorem SqL.adv {K : PySem.W.Frag} {H H' : Hp} {a : Addr} {xs : List V} (e : Adv [] H H') (h : SqL K H a xs) : SqL K H' a xs := by
  rcases h with (h | ⟨o, h⟩) | h
  · exact .inl (.inl (e.same _ _ h))
  · exact .inl (.inr ⟨o, e.same _ _ h⟩)
  · exact .inr h
/-- d.get(k), d a dict of the text's top whose keys are texts -/
def tKGet (K : PySem.W.Frag) (w : World) (td ty : TE) : TE := fun σ H Q => td σ H fun x H1 => ∃ (d : Addr) (es : Array DictEntry) (n : Nat), x = .ref d ∧ KDict K w d es n ∧
  ty σ H1 fun y H2 => ∃ (z : Str) (r : Option Value) (v : V), y = .str z ∧ PySem.W.nsIn K d z = some r ∧ RelV v (r.getD .none) ∧ Q v H2
theorem pe_kget {X : Cx} {o e : Expr} {apos cpos : Pos} {td ty : TE} (ho : PE X o td) (he : PE X e ty) (m : M1 X o "get" apos e cpos) : PE X (.Call (.Attribute o "get" apos) [e] [] cpos) (tKGet X.K X.w td ty) := by
  refine ⟨fun pins s σ H Q I h => ?_⟩
  refine wpAny_Call_method m.base m.few m.line PySem.F.plainAttrs_dict PySem.F.slot_dict_get PySem.F.type_dict_get (thn (ho.run pins s σ H _ I h) fun u s1 q => ?_)
  obtain ⟨x, H1, I1, rx, d, es, n, ex, KD, q1⟩ := q
  subst ex
  cases (show u = Value.ref d from rx)
  refine ⟨kd_type KD I1, fun b eb => ?_, ?_⟩
  · cases eb
    exact ⟨_, I1.kIn _ _ KD.at_, rfl⟩
  · rw [m.trees]
    refine Calls.callWith_builtin rfl (Calls.evalArgs_plain (Calls.spliced_cons (thn (he.run pins s1 σ H1 _ I1 q1) fun iv s2 q2 => Calls.spliced_nil ?_)))
    obtain ⟨y, H2, I2, ry, z, r, v, ey, en, rv, q3⟩ := q2
    subst ey
    obtain ⟨t, rfl⟩ := ry
    have mo := PySem.W.mapOf_K (prog := X.prog) (w := X.w) I2.kIn KD.at_ KD.lit
    refine call_meetsIn PySem.F.slot_dict_get mo.typeIs PySem.F.entry_dict_get (PySem.F.args_dict_get_2 _ _) (meets_dict_get (strKind X.prog X.w) d (PySem.strKind_is X.prog X.w z t) KD.low) ⟨_, mo, ⟨v, H2, I2.tok _, ?_, q3⟩⟩
    rw [PySem.W.find_K KD.at_ en]
    exact rv
section
variable {K : PySem.W.Frag} {a D : Addr} {xs : List V} {g : TG} {te : TE} {vs : List Nat} {σ : L2.St} {H1 : Hp} {Qd : Hp → Prop}
theorem range_map_succ (ys : Nat → V) (i : Nat) : (List.range (i + 1)).map ys = (List.range i).map ys ++ [ys i] := by rw [List.range_succ, List.map_append]; rfl
/-- [e for x in t], t a tuple: e gives ys i at its i-th item -/
theorem lc_mapT (ys : Nat → V) (hD : H1 D = none) (src : SqT K H1 a xs) (hz : xs.length ≤ 1000000)
    (hs : ∀ (i : Nat) (x : V) (H : Hp) (acc : List V) (R : V → Hp → Prop), xs[i]? = some x → Adv [] H1 H → H D = some (.lst acc) → (∀ H4, H4 D = some (.lst acc) → Adv [] H1 H4 → R (ys i) H4) → g x (wipe σ vs) H fun σ2 H2 => wipe σ2 vs = wipe σ vs ∧ te σ2 H2 R)
    (hd : ∀ H, Adv [] H1 H → H D = some (.lst ((List.range xs.length).map ys)) → Qd H) :
    ∃ W : Nat → Nat → Hp → Prop, (∃ m, W 0 m (upd H1 D (.lst []))) ∧ ∀ i m H, W i m H →
      ((Itt K a).stop i H ∧ Qd H) ∨ ((Itt K a).go i H ∧ ∃ Nx : Hp → Prop, (∀ H', Nx H' → ∃ m', m' < m ∧ W (i + 1) m' H') ∧ ∀ x H', (Itt K a).yld i H x H' → g x (wipe σ vs) H' fun σ2 H2 => wipe σ2 vs = wipe σ vs ∧ tYes σ2 H2 fun b H3 =>
        if b = true then te σ2 H3 fun y H4 => ∃ acc, H4 D = some (.lst acc) ∧ acc.length < sizeLine ∧ Nx (upd H4 D (.lst (acc ++ [y]))) else Nx H3) := by
  refine lc_tup (K := K) (a := a) (xs := xs) (tt := tYes) (fun i H => Adv [] H1 H ∧ H D = some (.lst ((List.range i).map ys))) ⟨Adv.new hD, upd_same⟩ (fun i H _ p => SqT.adv p.1 src) (fun i x H hx p => ?_) (fun H p => hd H p.1 p.2)
  have hi : i < xs.length := (List.getElem?_eq_some_iff.mp hx).1
  refine hs i x H _ (fun y H4 => ∃ acc, H4 D = some (.lst acc) ∧ acc.length < sizeLine ∧ Adv [] H1 (upd H4 D (.lst (acc ++ [y]))) ∧ (upd H4 D (.lst (acc ++ [y]))) D = some (.lst ((List.range (i + 1)).map ys))) hx p.1 p.2 (fun H4 e4 a4 => ⟨_, e4, ?_, Adv.mut a4 hD, ?_⟩)
  · rw [List.length_map, List.length_range, sizeLine_eq]
    omega
  · rw [upd_same, range_map_succ]
theorem lc_dataR {M : List Addr} {n : Nat} (ds : List PyData) (hn : n = ds.length) (hD : H1 D = none) (hz : n ≤ 1000000)
    (hs : ∀ (i : Nat) (d : PyData) (H : Hp) (acc : List V) (R : V → Hp → Prop), ds[i]? = some d → Adv [] H1 H → H D = some (.lst acc) → (∀ y H4, H4 D = some (.lst acc) → Adv [D] H H4 → Is (D :: M) H4 d y → R y H4) → g (.int (0 + (i : Nat))) (wipe σ vs) H fun σ2 H2 => wipe σ2 vs = wipe σ vs ∧ te σ2 H2 R)
    (hd : ∀ H acc, Adv [] H1 H → H D = some (.lst acc) → IsDs (D :: M) H ds acc → Qd H) :
    ∃ W : Nat → Nat → Hp → Prop, (∃ m, W 0 m (upd H1 D (.lst []))) ∧ ∀ i m H, W i m H →
      ((Itr 0 n).stop i H ∧ Qd H) ∨ ((Itr 0 n).go i H ∧ ∃ Nx : Hp → Prop, (∀ H', Nx H' → ∃ m', m' < m ∧ W (i + 1) m' H') ∧ ∀ x H', (Itr 0 n).yld i H x H' → g x (wipe σ vs) H' fun σ2 H2 => wipe σ2 vs = wipe σ vs ∧ tYes σ2 H2 fun b H3 =>
        if b = true then te σ2 H3 fun y H4 => ∃ acc, H4 D = some (.lst acc) ∧ acc.length < sizeLine ∧ Nx (upd H4 D (.lst (acc ++ [y]))) else Nx H3) := by
  refine lc_range (lo := 0) (n := n) (tt := tYes) (fun i H => Adv [] H1 H ∧ ∃ acc, H D = some (.lst acc) ∧ IsDs (D :: M) H (ds.take i) acc) ⟨Adv.new hD, [], upd_same, .nil⟩ (fun i H hx p => ?_) (fun H p => ?_)
  · have hi : i < ds.length := by
      rw [← hn]
      exact hx
    obtain ⟨a1, acc, hacc, hds⟩ := p
    have hlen := hds.len
    rw [List.length_take, Nat.min_eq_left (Nat.le_of_lt hi)] at hlen
    refine hs i (ds[i]) H acc (fun y H4 => ∃ acc, H4 D = some (.lst acc) ∧ acc.length < sizeLine ∧ Adv [] H1 (upd H4 D (.lst (acc ++ [y]))) ∧ ∃ acc', (upd H4 D (.lst (acc ++ [y]))) D = some (.lst acc') ∧ IsDs (D :: M) (upd H4 D (.lst (acc ++ [y]))) (ds.take (i + 1)) acc')
      (List.getElem?_eq_getElem hi) a1 hacc (fun y H4 e4 a4 hy => ⟨acc, e4, by rw [sizeLine_eq]; omega, ?_, acc ++ [y], upd_same, ?_⟩)
    · exact Adv.mut (((a1.more (N := [D]) (by simp)).trans a4).drop hD) hD
    · have e1 : ds.take (i + 1) = ds.take i ++ [ds[i]] := by rw [List.take_succ, List.getElem?_eq_getElem hi]; rfl
      rw [e1]
      have m1 : ∀ b ∈ [D], b ∈ D :: M := fun b hb => by simp at hb; simp [hb]
      exact ((hds.adv (a4.more m1)).adv (Adv.set (by simp))).app (IsDs.one (hy.adv (Adv.set (by simp))))
  · obtain ⟨a1, acc, hacc, hds⟩ := p
    rw [hn, List.take_length] at hds
    exact hd H acc a1 hacc hds
theorem lc_dataL {M : List Addr} (ds : List PyData) (hn : xs.length = ds.length) (hD : H1 D = none) (src : SqL K H1 a xs) (hz : xs.length ≤ 1000000)
    (hs : ∀ (i : Nat) (x : V) (d : PyData) (H : Hp) (acc : List V) (R : V → Hp → Prop), xs[i]? = some x → ds[i]? = some d → Adv [] H1 H → H D = some (.lst acc) → (∀ y H4, H4 D = some (.lst acc) → Adv [D] H H4 → Is (D :: M) H4 d y → R y H4) → g x (wipe σ vs) H fun σ2 H2 => wipe σ2 vs = wipe σ vs ∧ te σ2 H2 R)
    (hd : ∀ H acc, Adv [] H1 H → H D = some (.lst acc) → IsDs (D :: M) H ds acc → Qd H) :
    ∃ W : Nat → Nat → Hp → Prop, (∃ m, W 0 m (upd H1 D (.lst []))) ∧ ∀ i m H, W i m H →
      ((Itl K a).stop i H ∧ Qd H) ∨ ((Itl K a).go i H ∧ ∃ Nx : Hp → Prop, (∀ H', Nx H' → ∃ m', m' < m ∧ W (i + 1) m' H') ∧ ∀ x H', (Itl K a).yld i H x H' → g x (wipe σ vs) H' fun σ2 H2 => wipe σ2 vs = wipe σ vs ∧ tYes σ2 H2 fun b H3 =>
        if b = true then te σ2 H3 fun y H4 => ∃ acc, H4 D = some (.lst acc) ∧ acc.length < sizeLine ∧ Nx (upd H4 D (.lst (acc ++ [y]))) else Nx H3) := by
  refine lc_list (K := K) (a := a) (xs := xs) (tt := tYes) (fun i H => Adv [] H1 H ∧ ∃ acc, H D = some (.lst acc) ∧ IsDs (D :: M) H (ds.take i) acc) ⟨Adv.new hD, [], upd_same, .nil⟩ (fun i H _ p => SqL.adv p.1 src) (fun i x H hx p => ?_) (fun H p => ?_)
  · have hi : i < ds.length := by
      rw [← hn]
      exact (List.getElem?_eq_some_iff.mp hx).1
    obtain ⟨a1, acc, hacc, hds⟩ := p
    have hlen := hds.len
    rw [List.length_take, Nat.min_eq_left (Nat.le_of_lt hi)] at hlen
    refine hs i x (ds[i]) H acc (fun y H4 => ∃ acc, H4 D = some (.lst acc) ∧ acc.length < sizeLine ∧ Adv [] H1 (upd H4 D (.lst (acc ++ [y]))) ∧ ∃ acc', (upd H4 D (.lst (acc ++ [y]))) D = some (.lst acc') ∧ IsDs (D :: M) (upd H4 D (.lst (acc ++ [y]))) (ds.take (i + 1)) acc')
      hx (List.getElem?_eq_getElem hi) a1 hacc (fun y H4 e4 a4 hy => ⟨acc, e4, by rw [sizeLine_eq]; omega, ?_, acc ++ [y], upd_same, ?_⟩)
    · exact Adv.mut (((a1.more (N := [D]) (by simp)).trans a4).drop hD) hD
    · have e1 : ds.take (i + 1) = ds.take i ++ [ds[i]] := by rw [List.take_succ, List.getElem?_eq_getElem hi]; rfl
      rw [e1]
      have m1 : ∀ b ∈ [D], b ∈ D :: M := fun b hb => by simp at hb; simp [hb]
      exact ((hds.adv (a4.more m1)).adv (Adv.set (by simp))).app (IsDs.one (hy.adv (Adv.set (by simp))))
  · obtain ⟨a1, acc, hacc, hds⟩ := p
    rw [hn, List.take_length] at hds
    exact hd H acc a1 hacc hds
theorem lc_dataT {M : List Addr} (ds : List PyData) (hn : xs.length = ds.length) (hD : H1 D = none) (src : SqT K H1 a xs) (hz : xs.length ≤ 1000000)
    (hs : ∀ (i : Nat) (x : V) (d : PyData) (H : Hp) (acc : List V) (R : V → Hp → Prop), xs[i]? = some x → ds[i]? = some d → Adv [] H1 H → H D = some (.lst acc) → (∀ y H4, H4 D = some (.lst acc) → Adv [D] H H4 → Is (D :: M) H4 d y → R y H4) → g x (wipe σ vs) H fun σ2 H2 => wipe σ2 vs = wipe σ vs ∧ te σ2 H2 R)
    (hd : ∀ H acc, Adv [] H1 H → H D = some (.lst acc) → IsDs (D :: M) H ds acc → Qd H) :
    ∃ W : Nat → Nat → Hp → Prop, (∃ m, W 0 m (upd H1 D (.lst []))) ∧ ∀ i m H, W i m H →
      ((Itt K a).stop i H ∧ Qd H) ∨ ((Itt K a).go i H ∧ ∃ Nx : Hp → Prop, (∀ H', Nx H' → ∃ m', m' < m ∧ W (i + 1) m' H') ∧ ∀ x H', (Itt K a).yld i H x H' → g x (wipe σ vs) H' fun σ2 H2 => wipe σ2 vs = wipe σ vs ∧ tYes σ2 H2 fun b H3 =>
        if b = true then te σ2 H3 fun y H4 => ∃ acc, H4 D = some (.lst acc) ∧ acc.length < sizeLine ∧ Nx (upd H4 D (.lst (acc ++ [y]))) else Nx H3) := by
  refine lc_tup (K := K) (a := a) (xs := xs) (tt := tYes) (fun i H => Adv [] H1 H ∧ ∃ acc, H D = some (.lst acc) ∧ IsDs (D :: M) H (ds.take i) acc) ⟨Adv.new hD, [], upd_same, .nil⟩ (fun i H _ p => SqT.adv p.1 src) (fun i x H hx p => ?_) (fun H p => ?_)
  · have hi : i < ds.length := by
      rw [← hn]
      exact (List.getElem?_eq_some_iff.mp hx).1
    obtain ⟨a1, acc, hacc, hds⟩ := p
    have hlen := hds.len
    rw [List.length_take, Nat.min_eq_left (Nat.le_of_lt hi)] at hlen
    refine hs i x (ds[i]) H acc (fun y H4 => ∃ acc, H4 D = some (.lst acc) ∧ acc.length < sizeLine ∧ Adv [] H1 (upd H4 D (.lst (acc ++ [y]))) ∧ ∃ acc', (upd H4 D (.lst (acc ++ [y]))) D = some (.lst acc') ∧ IsDs (D :: M) (upd H4 D (.lst (acc ++ [y]))) (ds.take (i + 1)) acc')
      hx (List.getElem?_eq_getElem hi) a1 hacc (fun y H4 e4 a4 hy => ⟨acc, e4, by rw [sizeLine_eq]; omega, ?_, acc ++ [y], upd_same, ?_⟩)
    · exact Adv.mut (((a1.more (N := [D]) (by simp)).trans a4).drop hD) hD
    · have e1 : ds.take (i + 1) = ds.take i ++ [ds[i]] := by rw [List.take_succ, List.getElem?_eq_getElem hi]; rfl
      rw [e1]
      have m1 : ∀ b ∈ [D], b ∈ D :: M := fun b hb => by simp at hb; simp [hb]
      exact ((hds.adv (a4.more m1)).adv (Adv.set (by simp))).app (IsDs.one (hy.adv (Adv.set (by simp))))
  · obtain ⟨a1, acc, hacc, hds⟩ := p
    rw [hn, List.take_length] at hds
    exact hd H acc a1 hacc hds
theorem range_filt_succ (ys : Nat → V) (c : Nat → Bool) (i : Nat) : ((List.range (i + 1)).filter c).map ys = ((List.range i).filter c).map ys ++ (if c i = true then [ys i] else []) := by
  rw [List.range_succ, List.filter_append, List.map_append]
  congr 1
  cases h : c i <;> simp [h]
/-- [e for x in t if c], t a tuple -/
theorem lc_filtT {tt : TT} (ys : Nat → V) (c : Nat → Bool) (hD : H1 D = none) (src : SqT K H1 a xs) (hz : xs.length ≤ 1000000)
    (hs : ∀ (i : Nat) (x : V) (H : Hp) (acc : List V) (R : V → Hp → Prop) (R0 : Hp → Prop), xs[i]? = some x → Adv [] H1 H → H D = some (.lst acc) → (c i = true → ∀ H4, H4 D = some (.lst acc) → Adv [] H1 H4 → R (ys i) H4) →
      (c i = false → ∀ H4, H4 D = some (.lst acc) → Adv [] H1 H4 → R0 H4) → g x (wipe σ vs) H fun σ2 H2 => wipe σ2 vs = wipe σ vs ∧ tt σ2 H2 fun b H3 => if b = true then te σ2 H3 R else R0 H3)
    (hd : ∀ H, Adv [] H1 H → H D = some (.lst (((List.range xs.length).filter c).map ys)) → Qd H) :
    ∃ W : Nat → Nat → Hp → Prop, (∃ m, W 0 m (upd H1 D (.lst []))) ∧ ∀ i m H, W i m H →
      ((Itt K a).stop i H ∧ Qd H) ∨ ((Itt K a).go i H ∧ ∃ Nx : Hp → Prop, (∀ H', Nx H' → ∃ m', m' < m ∧ W (i + 1) m' H') ∧ ∀ x H', (Itt K a).yld i H x H' → g x (wipe σ vs) H' fun σ2 H2 => wipe σ2 vs = wipe σ vs ∧ tt σ2 H2 fun b H3 =>
        if b = true then te σ2 H3 fun y H4 => ∃ acc, H4 D = some (.lst acc) ∧ acc.length < sizeLine ∧ Nx (upd H4 D (.lst (acc ++ [y]))) else Nx H3) := by
  refine lc_tup (K := K) (a := a) (xs := xs) (tt := tt) (fun i H => Adv [] H1 H ∧ H D = some (.lst (((List.range i).filter c).map ys))) ⟨Adv.new hD, upd_same⟩ (fun i H _ p => SqT.adv p.1 src) (fun i x H hx p => ?_) (fun H p => hd H p.1 p.2)
  have hi : i < xs.length := (List.getElem?_eq_some_iff.mp hx).1
  refine hs i x H _ (fun y H4 => ∃ acc, H4 D = some (.lst acc) ∧ acc.length < sizeLine ∧ Adv [] H1 (upd H4 D (.lst (acc ++ [y]))) ∧ (upd H4 D (.lst (acc ++ [y]))) D = some (.lst (((List.range (i + 1)).filter c).map ys)))
    (fun H3 => Adv [] H1 H3 ∧ H3 D = some (.lst (((List.range (i + 1)).filter c).map ys))) hx p.1 p.2 (fun hc H4 e4 a4 => ⟨_, e4, ?_, Adv.mut a4 hD, ?_⟩) (fun hc H4 e4 a4 => ⟨a4, ?_⟩)
  · have h1 := List.length_filter_le c (List.range i)
    rw [List.length_range] at h1
    rw [List.length_map, sizeLine_eq]
    omega
  · rw [upd_same, range_filt_succ, if_pos hc]
  · rw [e4, range_filt_succ, if_neg (by rw [hc]; decide), List.append_nil]
end
theorem range_map_list {ds : List PyData} (f : PyData → Bool) : ((List.range ds.length).map fun i => V.bl (f (ds.getD i .none))) = (ds.map f).map V.bl := by
  apply List.ext_getElem
  · simp
  · intro i h1 h2
    have h : i < ds.length := by simpa using h1
    simp [h]
/-! ### dicts whose keys are tuples -/
theorem val_mem (kvs : List (List Key × V)) (k : List Key) : (valV kvs k).isSome = memK k (kvs.map (·.1)) := by
  unfold valV memK
  rw [Option.isSome_map, List.any_map]
  induction kvs with
  | nil => rfl
  | cons p r ih =>
    rw [List.find?_cons, List.any_cons]
    show (match decide (p.1 = k) with | true => some p | false => r.find? fun kv => decide (kv.1 = k)).isSome = (decide (p.1 = k) || r.any _)
    cases decide (p.1 = k) with
    | true => rfl
    | false => rw [Bool.false_or]; exact ih
theorem put_new (kvs : List (List Key × V)) (k : List Key) (v : V) (h : memK k (kvs.map (·.1)) = false) : putK kvs k v = kvs ++ [(k, v)] := by
  unfold putK
  have e : (kvs.any fun kv => decide (kv.1 = k)) = false := by
    unfold memK at h
    rw [List.any_map] at h
    exact h
  rw [if_neg (by rw [e]; decide)]
/-! ### for i, x in enumerate(list), the list left as it is -/
theorem for_enum {K : PySem.W.Frag} {a : Addr} {xs : List V} {g : TG} {tb : TS} {D : Ends} {σ : L2.St} {H : Hp} (Pv : Nat → L2.St → Hp → Prop) (h0 : Pv 0 σ H) (hl : ∀ i σ H, i ≤ xs.length → Pv i σ H → H a = some (.lst xs))
    (hs : ∀ (i : Nat) (x : V) (T : Addr) (σ : L2.St) (H : Hp), xs[i]? = some x → Pv i σ H → H T = none → g (.ref T) σ (upd H T (.tup [.int (i : Nat), x])) fun σ2 H2 => tb { D with nx := Pv (i + 1), ct := Pv (i + 1), bk := D.nx } σ2 H2) (hd : ∀ σ H, Pv xs.length σ H → D.nx σ H) :
    ∃ W : Nat → Nat → L2.St → Hp → Prop, (∃ m, W 0 m σ H) ∧ ∀ i m σ H, W i m σ H →
      ((Ite K a).stop i H ∧ D.nx σ H) ∨ ((Ite K a).go i H ∧ ∃ N : L2.St → Hp → Prop, (∀ σ' H', N σ' H' → ∃ m', m' < m ∧ W (i + 1) m' σ' H') ∧ ∀ x H', (Ite K a).yld i H x H' → g x σ H' fun σ2 H2 => tb { D with nx := N, ct := N, bk := D.nx } σ2 H2) := by
  refine ⟨fun i m σ H => i + m = xs.length ∧ Pv i σ H, ⟨xs.length, by omega, h0⟩, ?_⟩
  rintro i m σ H ⟨em, p⟩
  have q : SqL K H a xs := SqL.of (hl i σ H (by omega) p)
  by_cases hlt : i < xs.length
  · refine .inr ⟨⟨xs, xs[i], q, List.getElem?_eq_getElem hlt⟩, Pv (i + 1), fun σ' H' p' => ⟨m - 1, by omega, by omega, p'⟩, fun x H' y => ?_⟩
    obtain ⟨T, y0, rfl, nT, rfl, f⟩ := y
    exact hs i y0 T σ H (f xs q) p nT
  · have e : i = xs.length := by omega
    subst e
    exact .inl ⟨⟨xs, q, Nat.le_refl _⟩, hd σ H p⟩
theorem not_mem_new {M : List Addr} {H : Hp} {p : Addr} (h : ∀ b ∈ M, H b ≠ none) (n : H p = none) : p ∉ M := fun z => h p z n
theorem yes_if {σ : L2.St} {H : Hp} {f : Bool → Hp → Prop} (h : f true H) : tYes σ H f := h
/-! ### ways that are never gone -/
def eNo : TE := fun _ _ _ => False
def cNo : TT := fun _ _ _ => False
theorem pe_never {X : Cx} {e : Expr} : PE X e eNo := ⟨fun _ _ _ _ _ _ h => h.elim⟩
theorem pt_never {X : Cx} {e : Expr} : PT X e cNo := ⟨fun _ _ _ _ _ _ h => h.elim⟩
/-- a comprehension over an empty dict that is locked -/
theorem lc_keys0 {d D : Addr} {o : Obj} {g : TG} {tt : TT} {te : TE} {vs : List Nat} {σ : L2.St} {H1 : Hp} {Qd : Hp → Prop} (hd0 : H1 d = some (.frz o (.dK []))) (hD : H1 D = none) (hd : Qd (upd H1 D (.lst []))) :
    ∃ W : Nat → Nat → Hp → Prop, (∃ m, W 0 m (upd H1 D (.lst []))) ∧ ∀ i m H, W i m H →
      ((Itk d o []).stop i H ∧ Qd H) ∨ ((Itk d o []).go i H ∧ ∃ Nx : Hp → Prop, (∀ H', Nx H' → ∃ m', m' < m ∧ W (i + 1) m' H') ∧ ∀ x H', (Itk d o []).yld i H x H' → g x (wipe σ vs) H' fun σ2 H2 => wipe σ2 vs = wipe σ vs ∧ tt σ2 H2 fun b H3 =>
        if b = true then te σ2 H3 fun y H4 => ∃ acc, H4 D = some (.lst acc) ∧ acc.length < sizeLine ∧ Nx (upd H4 D (.lst (acc ++ [y]))) else Nx H3) := by
  refine ⟨fun i m H => H = upd H1 D (.lst []), ⟨0, rfl⟩, ?_⟩
  rintro i m H rfl
  exact .inl ⟨⟨by rw [upd_ne (ne_of_none hd0 hD)]; exact hd0, Nat.zero_le _⟩, hd⟩
/-- a loop over an empty dict that is locked -/
theorem for_keys0 {d : Addr} {o : Obj} {g : TG} {tb : TS} {D : Ends} {σ : L2.St} {H1 : Hp} (hd0 : H1 d = some (.frz o (.dK []))) (hd : D.nx σ H1) :
    ∃ W : Nat → Nat → L2.St → Hp → Prop, (∃ m, W 0 m σ H1) ∧ ∀ i m σ H, W i m σ H →
      ((Itk d o []).stop i H ∧ D.nx σ H) ∨ ((Itk d o []).go i H ∧ ∃ N : L2.St → Hp → Prop, (∀ σ' H', N σ' H' → ∃ m', m' < m ∧ W (i + 1) m' σ' H') ∧ ∀ x H', (Itk d o []).yld i H x H' → g x σ H' fun σ2 H2 => tb { D with nx := N, ct := N, bk := D.nx } σ2 H2) := by
  refine ⟨fun i m σ' H => σ' = σ ∧ H = H1, ⟨0, rfl, rfl⟩, ?_⟩
  rintro i m σ' H ⟨rfl, rfl⟩
  exact .inl ⟨⟨hd0, Nat.zero_le _⟩, hd⟩
theorem IsDs.last {M : List Addr} {H : Hp} : ∀ {ds : List PyData} {d : PyData} {vs : List V}, IsDs M H (ds ++ [d]) vs → ∃ ws v, vs = ws ++ [v] ∧ IsDs M H ds ws ∧ Is M H d v
  | [], d, vs, x => by
    have x' : IsDs M H [d] vs := x
    unfold IsDs at x'
    obtain ⟨v, r, rfl, h1, h2⟩ := x'
    unfold IsDs at h2
    subst h2
    exact ⟨[], v, rfl, .nil, h1⟩
  | c :: ds, d, vs, x => by
    have x' : IsDs M H (c :: (ds ++ [d])) vs := x
    unfold IsDs at x'
    obtain ⟨v, r, rfl, h1, h2⟩ := x'
    obtain ⟨ws, u, rfl, h3, h4⟩ := h2.last
    exact ⟨v :: ws, u, rfl, .cons h1 h3, h4⟩
theorem Is.pair {M : List Addr} {H : Hp} {d e : PyData} {v : V} (x : Is M H (.tuple [d, e]) v) : ∃ t v1 v2, v = .ref t ∧ Tp M H t [v1, v2] ∧ Is M H d v1 ∧ Is M H e v2 := by
  obtain ⟨t, vs, rfl, ht, hs⟩ := x.tupE
  unfold IsDs at hs
  obtain ⟨v1, r, rfl, h1, h2⟩ := hs
  unfold IsDs at h2
  obtain ⟨v2, r2, rfl, h3, h4⟩ := h2
  unfold IsDs at h4
  subst h4
  exact ⟨t, v1, v2, rfl, ht, h1, h3⟩
theorem IsDs.of_get {M : List Addr} {H : Hp} : ∀ {ds : List PyData} {vs : List V}, vs.length = ds.length → (∀ (i : Nat) d v, ds[i]? = some d → vs[i]? = some v → Is M H d v) → IsDs M H ds vs
  | [], vs, hl, h => by
    have : vs = [] := List.length_eq_zero_iff.mp hl
    subst this
    exact .nil
  | d :: ds, [], hl, h => by simp at hl
  | d :: ds, v :: vs, hl, h => .cons (h 0 d v rfl rfl) (IsDs.of_get (by simpa using hl) fun i d' v' h1 h2 => h (i + 1) d' v' (by simpa using h1) (by simpa using h2))
end LL

set_option Elab.async false
set_option linter.all false
set_option maxRecDepth 100000
set_option maxHeartbeats 4000000
/-! LBook: a book of rows (a list, and the dict of its nodes), a stream beside it; written data -/
namespace LL
open PySem PySem.Spec PyProof.Rows L2
variable [KW]
def keyDt : Key → PyData
  | .inl i => .int i
  | .inr x => .str x
theorem ks_data {M : List Addr} {H : Hp} : ∀ ks : List Key, IsDs M H (ks.map keyDt) (ks.map kV)
  | [] => .nil
  | .inl i :: ks => .cons .int (ks_data ks)
  | .inr x :: ks => .cons .str (ks_data ks)
theorem sz_key (k : Key) : sz (keyDt k) = 1 := by cases k <;> (unfold keyDt sz; rfl)
theorem dep_key (k : Key) : dep (keyDt k) = 0 := by cases k <;> (unfold keyDt dep; rfl)
theorem sz_tup (ds : List PyData) : sz (.tuple ds) = 1 + szL ds := by rw [sz]
theorem dep_tup (ds : List PyData) : dep (.tuple ds) = 1 + depL ds := by rw [dep]
theorem sz_lst (ds : List PyData) : sz (.list ds) = 1 + szL ds := by rw [sz]
theorem dep_lst (ds : List PyData) : dep (.list ds) = 1 + depL ds := by rw [dep]
theorem depL_cons (d : PyData) (ds : List PyData) : depL (d :: ds) = max (dep d) (depL ds) := by rw [depL]
theorem depL_nil : depL [] = 0 := by rw [depL]
theorem ks_sz : ∀ ks : List Key, szL (ks.map keyDt) = ks.length
  | [] => szL_nil
  | k :: ks => by rw [List.map_cons, szL_cons, ks_sz ks, List.length_cons, sz_key]; omega
theorem ks_dep : ∀ ks : List Key, depL (ks.map keyDt) = 0
  | [] => depL_nil
  | k :: ks => by rw [List.map_cons, depL_cons, ks_dep ks, dep_key]; rfl
/-- a datum as small as a node -/
def Small (d : PyData) : Prop := sz d ≤ 4 ∧ dep d ≤ 1 ∧ ∃ ks : List Key, d = .tuple (ks.map keyDt)
structure BookAt (M : List Addr) (H : Hp) (b0 b1 : Addr) (n : Nat) : Prop where
  rows : ∃ (rs : List V) (ds : List PyData) (kvs : List (List Key × V)), H b0 = some (.lst rs) ∧ rs.length = n ∧ IsDs M H ds rs ∧ (∀ d ∈ ds, Small d) ∧ H b1 = some (.dT kvs) ∧ kvs.length ≤ n ∧ ∀ p ∈ kvs, ∃ i : Nat, p.2 = .int i ∧ i < n
structure Bk (M : List Addr) (H : Hp) (s bk b0 b1 : Addr) (n : Nat) : Prop where
  str : StrAt M H s
  hbk : H bk = some (.lst [.ref b0, .ref b1])
  ms : s ∈ M
  m0 : b0 ∈ M
  m1 : b1 ∈ M
  kM : bk ∉ M
  ns0 : s ≠ b0
  ns1 : s ≠ b1
  n01 : b0 ≠ b1
  al : ∀ b ∈ M, H b ≠ none
  book : BookAt M H b0 b1 n
section
variable {M N : List Addr} {H H' : Hp} {s bk b0 b1 p : Addr} {n : Nat}
theorem alloc_adv (h : ∀ b ∈ M, H b ≠ none) (a : Adv N H H') (hN : ∀ b ∈ N, H' b ≠ none) : ∀ b ∈ M, H' b ≠ none := fun b hb => by
  by_cases e : b ∈ N
  · exact hN b e
  · cases q : H b with
    | none => exact absurd q (h b hb)
    | some o => rw [a b o e q]; simp
theorem Bk.adv (x : Bk M H s bk b0 b1 n) (a : Adv N H H') (h0 : b0 ∉ N) (h1 : b1 ∉ N) (hn : ∀ b ∈ N, b ∈ M) (hs : StrAt M H' s) (hal : ∀ b ∈ N, H' b ≠ none) : Bk M H' s bk b0 b1 n := by
  obtain ⟨x1, x2, x3, x4, x5, x6, x7, x8, x9, xa, rs, ds, kvs, r1, r2, r3, r4, r5, r6, r7⟩ := x
  exact ⟨hs, a _ _ (fun z => x6 (hn _ z)) x2, x3, x4, x5, x6, x7, x8, x9, alloc_adv xa a hal, ⟨rs, ds, kvs, a _ _ h0 r1, r2, r3.adv (a.more hn), r4, a _ _ h1 r5, r6, r7⟩⟩
theorem Bk.same (x : Bk M H s bk b0 b1 n) (a : Adv [] H H') : Bk M H' s bk b0 b1 n := x.adv a (by simp) (by simp) (by simp) (x.str.same a) (by simp)
theorem Bk.next (x : Bk M H s bk b0 b1 n) (a : Adv [s] H H') (hs : StrAt M H' s) : Bk M H' s bk b0 b1 n := x.adv a (by simpa using x.ns0.symm) (by simpa using x.ns1.symm) (by simpa using x.ms) hs (by simpa using hs.here)
theorem Bk.fresh (x : Bk M H s bk b0 b1 n) (h : H p = none) {o : HO} : Bk (p :: M) (upd H p o) s bk b0 b1 n := by
  have y := x.same (Adv.new (o := o) h)
  obtain ⟨_, _, _, _, _, _, _, _, _, _, rs, ds, kvs, r1, r2, r3, r4, r5, r6, r7⟩ := id x
  obtain ⟨x1, x2, x3, x4, x5, x6, x7, x8, x9, xa, _⟩ := y
  obtain ⟨z1, z2, z3, z4, z5, z6, z7, z8, z9, za, _⟩ := id x
  have a : Adv [] H (upd H p o) := Adv.new h
  exact ⟨(z1.fresh h).same a, x2, by simp [x3], by simp [x4], by simp [x5], fun z => (List.mem_cons.mp z).elim (ne_of_none z2 h) x6, x7, x8, x9,
    fun b hb => by
      rcases List.mem_cons.mp hb with e | hb
      · rw [e, upd_same]; simp
      · exact xa b hb, ⟨rs, ds, kvs, a.same _ _ r1, r2, (r3.fresh h).adv (a.more (by simp)), r4, a.same _ _ r5, r6, r7⟩⟩
theorem Bk.less (x : Bk (p :: M) H s bk b0 b1 n) (h1 : s ∈ M) (h2 : b0 ∈ M) (h3 : b1 ∈ M) : Bk M H s bk b0 b1 n := by
  obtain ⟨x1, x2, x3, x4, x5, x6, x7, x8, x9, xa, rs, ds, kvs, r1, r2, r3, r4, r5, r6, r7⟩ := x
  have m : ∀ b ∈ M, b ∈ p :: M := fun b hb => List.mem_cons_of_mem _ hb
  exact ⟨x1.less m, x2, h1, h2, h3, fun z => x6 (m _ z), x7, x8, x9, fun b hb => xa b (m b hb), ⟨rs, ds, kvs, r1, r2, r3.less m, r4, r5, r6, r7⟩⟩
end
theorem Bk.alloc {M : List Addr} {H : Hp} {s bk b0 b1 p : Addr} {n : Nat} (x : Bk M H s bk b0 b1 n) (h : H p = none) : p ≠ s ∧ p ≠ bk ∧ p ≠ b0 ∧ p ≠ b1 := by
  obtain ⟨x1, x2, x3, x4, x5, x6, x7, x8, x9, xa, rs, ds, kvs, r1, r2, r3, r4, r5, r6, r7⟩ := x
  refine ⟨fun z => x1.here (by rw [← z]; exact h), fun z => ?_, fun z => ?_, fun z => ?_⟩
  · rw [← z, h] at x2; cases x2
  · rw [← z, h] at r1; cases r1
  · rw [← z, h] at r5; cases r5
theorem Bk.put {M : List Addr} {H : Hp} {s bk b0 b1 D : Addr} {n : Nat} {o : HO} (x : Bk (D :: M) H s bk b0 b1 n) (h1 : D ≠ s) (h2 : D ≠ b0) (h3 : D ≠ b1) : Bk (D :: M) (upd H D o) s bk b0 b1 n :=
  x.adv (N := [D]) (Adv.set (by simp)) (by simpa using h2.symm) (by simpa using h3.symm) (by simp) (x.str.adv (N := [D]) (Adv.set (by simp)) (by simpa using h1.symm) (by simp)) (fun b hb => by rw [List.mem_singleton.mp hb, upd_same]; simp)
theorem Adv.one {s b0 b1 : Addr} {H H' : Hp} (a : Adv [s] H H') : Adv [s, b0, b1] H H' := a.more (by simp)
theorem Adv.two {s b0 b1 : Addr} {H H' : Hp} (a : Adv [b0, b1] H H') : Adv [s, b0, b1] H H' := a.more (by simp)
theorem Adv.nil {N : List Addr} {H H' : Hp} (a : Adv [] H H') : Adv N H H' := a.more (by simp)
/-! ### written data: what a display gives -/
def DE (te : TE) (σ : L2.St) (d : PyData) : Prop := ∀ (M : List Addr) (H : Hp) (Q : VK), (∀ b ∈ M, H b ≠ none) → (∀ v H', Is M H' d v → Adv [] H H' → Q v H') → te σ H Q
def DA (ta : TA) (σ : L2.St) (ds : List PyData) : Prop := ∀ (M : List Addr) (H : Hp) (Q : List V → Hp → Prop), (∀ b ∈ M, H b ≠ none) → (∀ vs H', IsDs M H' ds vs → Adv [] H H' → Q vs H') → ta σ H Q
theorem Adv.alloc {M : List Addr} {H H' : Hp} (a : Adv [] H H') (h : ∀ b ∈ M, H b ≠ none) : ∀ b ∈ M, H' b ≠ none := fun b hb => by
  cases e : H b with
  | none => exact absurd e (h b hb)
  | some o => rw [a.same _ _ e]; simp
section
variable {σ : L2.St} {te : TE} {ta : TA} {d : PyData} {ds : List PyData}
end
end LL

set_option Elab.async false
set_option linter.all false
set_option maxRecDepth 100000
set_option maxHeartbeats 4000000
namespace LL
open PySem PySem.Spec PyProof.Rows L2
variable [KW]
theorem sz1_int (i : Int) : sz (.int i) = 1 := by unfold sz; rfl
theorem sz1_str (i : Str) : sz (.str i) = 1 := by unfold sz; rfl
theorem sz1_bool (i : Bool) : sz (.bool i) = 1 := by unfold sz; rfl
theorem sz1_none : sz .none = 1 := by unfold sz; rfl
theorem sz1_dict (l : List (PyData × PyData)) : sz (.dict l) = 1 := by unfold sz; rfl
theorem dep1_int (i : Int) : dep (.int i) = 0 := by unfold dep; rfl
theorem dep1_str (i : Str) : dep (.str i) = 0 := by unfold dep; rfl
theorem dep1_bool (i : Bool) : dep (.bool i) = 0 := by unfold dep; rfl
theorem dep1_none : dep .none = 0 := by unfold dep; rfl
theorem dep1_dict (l : List (PyData × PyData)) : dep (.dict l) = 0 := by unfold dep; rfl
end LL

set_option Elab.async false
set_option linter.all false
set_option maxRecDepth 100000
set_option maxHeartbeats 2000000
/-! LExc: raising with the context kept, clauses with a name, what is asked of a held error -/
namespace LL
open PySem PySem.Spec PyProof.Rows L2
/-! ### defs -/
section
variable {P : Program} {w : World} {K : PySem.W.Frag} {mg : Str → Option Value} {base : Heap}
theorem okXN {x qual : Str} {st : Stmt} {f : Addr} {fd : FuncData} {N ps : List Str} {k : Nat} {sp : Sp} (F : Fun K x qual st f fd) (S : FnScope N ps (defScope st))
    (len : ∀ vs H Q E, sp vs H Q E → vs.length = ps.length)
    (hb : ∀ (cdv : Value) (A : Around) (outer : List Env) (s : Shared) (H : Hp) (vs : List V) (Q : VK) (E : XK), Room k (A.deeper (envOfC qual (defScope st) s.heap.objs.size f cdv)) → sp vs H Q E →
      ∃ t, PSs (cxOf (L2N.CX P w) P w K mg base N qual (defScope st) f cdv A outer s H E) (defBody st) t ∧ t { nx := fun _ H' => Q .non H', rt := Q } (L2.start N vs) H) :
    FnOk P w K mg base (L2N.CX P w) (k + 1) f fd ps sp := by
  obtain ⟨o1, o2, kV, doc, pm, an, cdv, ct, osl, e, lk, hcd⟩ := F.ex
  subst e
  exact fn_of lk hcd S len fun A outer s H vs Q E hr hs => hb cdv A outer s H vs Q E hr hs
end
/-! ### making an error -/
section
variable {X : Cx} {x : Str} {e : Expr} {es : List Expr} {ta : TA} {p pos : Pos}
theorem pmk_noargN {C : Addr} {bmB : List Value} {B newId initId : String} (F : ExcBaseFacts B newId initId bmB) (q : PySem.W.excIn X.K C bmB newId = true) (gC : X.mg x = some (.ref C)) (kC : PySem.W.keepIn X.K (.ref C) = true) (r : Raises X (.ref C)) (hg : Gl X x)
    (hdb : (x == ("__debug__" : Str)) = false := by decide) : L2N.PMk X (.Call (.Name x p) [] [] pos) (fun _ H Q => Q (.ref C) none H) := by
  intro pins s σ H Q I h
  refine wpAny_Call_Name_kw (ld_glob I hg gC ?_ hdb)
  refine PySem.W.callWith_K0 I.kIn kC ?_
  obtain ⟨bm, N, nm, qn, bs, hdct, sn, sub, ab, col, dd, k0, k1, k2, k3, k5, mN, hC, hN, hni, T⟩ := exc_obj I.kIn q
  exact wpAny_call_exc_subT F T hC hN hni (fun h' e hm => L2N.mk_of I hm r h (I.hok.gone hm.new)) (Nat.zero_le _)
theorem pmk_initN {CX : CXT} {C fI : Addr} {k : Nat} {fd : FuncData} {ps : List Str} {sp : Sp} {ds : List Value} {dvs : List V} (T : OexC X.K C) (iC : PySem.W.findIn X.K (.ref C) "__init__" = some (some (.ref fI)))
    (tI : PySem.W.typeIn X.K (.ref fI) = some (.type "function")) (F1 : FnOk X.prog X.w X.K X.mg X.base CX k fI fd ps sp) (hr : Room (k + 1) X.A) (hb : Binds X.K fd ps ds) (hd : Vals dvs ds) (hx : Passes CX X (fun _ _ _ => False)) (hg : Gl X x) (hm : X.mg x = some (.ref C))
    (ha : PA X (e :: es) ta) (hdb : (x == ("__debug__" : Str)) = false := by decide) (he : starEach (e :: es) X.env = (false, eval e X.env) :: starEach es X.env := by rfl) (hpl : (backTo pos (starEach es X.env)).any (·.1) = false := by rfl) :
    L2N.PMk X (.Call (.Name x p) (e :: es) [] pos) (tMkO C sp dvs ta) := by
  intro pins s σ H Q I h
  obtain ⟨nm, q, N, bs, bm, sn, sub, ab, col, dd, k0, k1, k2, k3, k5, hC, hbm⟩ := T.cls
  refine wpAny_Call_Name_kw (ld_glob I hg hm ?_ hdb)
  refine PySem.W.callWith_K (h₀ := X.base) I.ok.mod.kin T.kC (thn (ha.run pos pins s σ H _ I h) fun us s1 ⟨vs, H1, I1, r1, hz, q1⟩ => ⟨I1.kIn, ?_⟩) he hpl
  show wpAny _ _ (call (.ref C) us) _ _ _
  obtain ⟨hp, g, dr, tk, os⟩ := s1
  have ln : hp.objs.size ≤ hp.objs.size + 1 := Nat.le_succ _
  have fr : H1 (hp.objs.size + 1) = none := I1.hok.fresh ln
  have spq := q1 (hp.objs.size + 1) fr
  have old : ∀ b o, hp.get? b = some o → ((hp.push (PySem.W.kdv_tup us)).push (PySem.HandSPX.excO C hp.objs.size)).get? b = some o := fun b o e => Heap.get?_push_of_some _ (Heap.get?_push_of_some _ e)
  have its : ((hp.push (PySem.W.kdv_tup us)).push (PySem.HandSPX.excO C hp.objs.size)).get? (hp.objs.size + 1) = some (PySem.HandSPX.excO C hp.objs.size) := by heap_get
  have I2 : Inv X pins σ (upd H1 (hp.objs.size + 1) (exo (hp.objs.size + 1) C none)) ⟨(hp.push (PySem.W.kdv_tup us)).push (PySem.HandSPX.excO C hp.objs.size), g, dr, tk, os⟩ :=
    I1.laid (t' := tk) (a := hp.objs.size + 1) (o := exo (hp.objs.size + 1) C none) (h' := (hp.push (PySem.W.kdv_tup us)).push (PySem.HandSPX.excO C hp.objs.size)) old ln (exo_ok its)
  have vr : Vals (V.ref (hp.objs.size + 1) :: (vs ++ dvs)) (Value.ref (hp.objs.size + 1) :: (us ++ ds)) := .cons rfl (r1.append hd)
  have hl : (Value.ref (hp.objs.size + 1) :: us ++ ds).length = ps.length := by
    have e := vr.length
    rw [F1.len _ _ _ _ spq] at e
    exact e.symm
  have su : us.length ≤ sizeLine := by
    have := Paired.length r1
    rw [sizeLine_eq]; omega
  refine wpAny_call (PySem.HandSPX.call_own F.excBase_ValueError (fun Y => PySem.HandSPX.refsVE_contains Y bm hbm) (I1.kIn _ _ hC) (PySem.W.looks_findIn I1.kIn iC) (fun self => PySem.W.bind_fn I1.kIn self tI) su
    (codeAny_mono (F1.run _ X.stack _ _ ⟨Value.ref (hp.objs.size + 1) :: us, []⟩ (Value.ref (hp.objs.size + 1) :: (us ++ ds)) _ _ (fun _ _ _ => False) (hr.make C us []) (I2.env0.make C us []) (hb _ (Value.ref (hp.objs.size + 1) :: us) I2.kIn hl) vr spq) fun r s' hq => ?_))
  cases r with
  | error er => exact hx pins σ _ _ er s' I2 hq
  | ok fl =>
    cases fl with
    | next => exact False.elim hq
    | brk => exact False.elim hq
    | cont => exact False.elim hq
    | ret u =>
      obtain ⟨v, H2, o2, b2, u2, k2', rv, ev, d, fs, ea, ed, hd1, q2⟩ := hq
      subst ev
      obtain ⟨h2, g2, d2, t2, os'⟩ := s'
      obtain ⟨t0, G, J, kG, ge, hoe, na⟩ := mk_end0 (d2 := d2) (t2 := t2) I1 ln old u2 k2' o2 b2 ea ed hd1
      exact ⟨rv, hp.objs.size + 1, _, _, ⟨G, g2, d2, t2, os'⟩, _, .ref C, some d, rfl, J, kG, ge, hoe, ⟨rfl, rfl, fun vs e => by cases e; rfl⟩, rfl, rfl, na, rfl, b2, raises_own T.exC T.tyC, q2⟩
end
/-! ### list.count, flat items -/
def rCntF (K : PySem.W.Frag) : V → List V → Hp → VK → Prop := fun x xs H Q => ∃ (a : Addr) (ys : List V) (y : V), x = V.ref a ∧ xs = [y] ∧ SqL K H a ys ∧ flatV y = true ∧ ys.all flatV = true ∧ Q (.int ((ys.countP fun z => eqV z y) : Nat)) H
theorem count_eqU {y : V} : ∀ {ys : List V} {its : List Value}, Vals ys its → ys.all flatV = true → its.countP (eqU y) = ys.countP fun z => eqV z y
  | [], _, .nil, _ => rfl
  | z :: ys, u :: its, .cons r rs, h => by
    rw [List.all_cons, Bool.and_eq_true] at h
    rw [List.countP_cons, List.countP_cons, count_eqU rs h.2, eqU_of r h.1]
theorem mt_countF {X : Cx} : MtR X "list.count" (rCntF X.K) := by
  intro pins s σ H x xs v us Q I rx rxs h
  obtain ⟨a, ys, y, rfl, rfl, hs, fy, fys, q⟩ := h
  cases rx
  obtain ⟨u, rfl, ru⟩ := rxs.one
  obtain ⟨its, rv, ⟨⟨cls, dd, data, sl⟩, n, ho, hc, hdn, hd⟩, hlen⟩ := I.list hs
  simp only at hc hd
  subst hc hd
  refine call_meets PySem.F.slot_list_count ⟨_, ho, rfl⟩ PySem.F.entry_list_count (PySem.F.args_list_count_2 _ _)
    (SeqAt.list_countAt a its.toArray n dd sl u (eqU y)) ⟨ho, fun z hz => mem_eqAt ru fy rv fys z (by simpa using hz), ?_⟩
  refine ⟨.int ((ys.countP fun z => eqV z y) : Nat), H, I.tok _, ⟨s.toks, ?_⟩, q⟩
  rw [← count_eqU rv fys]
end LL

set_option Elab.async false
set_option linter.all false
set_option maxRecDepth 100000
set_option maxHeartbeats 2000000
/-! LExd: isinstance of a held error whatever its dict; try with clauses that name the error -/
namespace LL
open PySem PySem.Spec PyProof.Rows L2
section
open PySem.W PySem.Calls
variable {prog : Program} {w : World} {A : Around} {E : Value → Shared → Prop} {s : Shared} {K : Frag} {x D : Addr} {ox : Obj} {od : Option Obj}
theorem held_class {Q : Option Value → Shared → Prop} (C : ExcC K D) (X : K.In s.heap) (I : InstAt s.heap x ox D od) (h : Q (some (.ref D)) { s with toks := s.toks + 1 }) :
    wpAny (model prog w) A (getAttr? (.ref x) "__class__") Q E s := by
  have hf : findObj K D od "__class__" = some (.bind (.builtin "getset_descriptor.__get__") (.builtin "object.__class__")) := by
    obtain ⟨cd, hc, _⟩ := any_some C.hd
    unfold findObj
    rw [hc, Option.bind_some, C.ha, Option.bind_some]
    simp [C.hn, C.ht]
  obtain ⟨hp, g, d, t, os⟩ := s
  have L0 := I.type (M := model prog w)
  have L1 := looks_findIn (M := model prog w) X C.hg
  have L2' := looks_findIn (M := model prog w) X C.hk
  have L3 := looks_find (M := model prog w) X I hf
  have sub : Looks (model prog w) hp (isInstance (.ref x) (.type "BaseException")) true := L0.andThen (looks_subIn X C.hs)
  have y0 : (false && onTheHeap (Value.builtin "BaseException.__getattribute__")) = false := rfl
  have y2 : (Value.builtin "BaseException.__getattribute__" == Value.builtin "object.__getattribute__") = false := by decide +kernel
  have y1 : (onTheHeap (Value.ref D) && Value.builtin "BaseException.__getattribute__" == Value.builtin "object.__getattribute__") = false := by rw [y2]; rfl
  unfold getAttr? getAttrBy? getAttrBy
  refine wpAny_bind (wpAny_mkText (wpAny_bind (wpAny_attempt (wpAny_holding (wpAny_bind (L0.at (wpAny_bind (L1.at ?_))))))))
  show wpAny _ _ (if (onTheHeap (Value.ref D) && Value.builtin "BaseException.__getattribute__" == Value.builtin "object.__getattribute__") = true then _ else _) _ _ _
  rw [y1, if_neg Bool.false_ne_true]
  unfold getAttrByItsOwn hookBefore
  refine wpAny_bind ?_
  rw [if_pos (show onTheHeap (Value.ref D) = true from rfl)]
  refine L2'.at (wpAny_bind (wpAny_attempt (wpAny_holding ?_)))
  unfold callGetattribute
  rw [y0, if_neg Bool.false_ne_true]
  unfold boundAndCalled
  rw [PySem.F.excAttr_ValueError.ga.bind (.ref x)]
  refine wpAny_bind (wpAny_pure ?_)
  show wpAny _ _ (call (.builtin "BaseException.__getattribute__") [.ref x, .str "__class__" t]) _ _ _
  refine wpAny_call (codeAny_call_builtin PySem.F.excAttr_ValueError.ga.plain PySem.F.entry_bexc_ga ?_)
  refine @check_slot (model prog w) _ _ ⟨hp, g, d, t + 1, os⟩ "BaseException.__getattribute__" "BaseException" "__getattribute__" (.ref x) [.str "__class__" t] [] _ (by decide +kernel) (by decide +kernel) sub (PySem.F.args_bexc_ga (.ref x) (.str "__class__" t)) ?_
  unfold Builtin.«object.__getattribute__»
  refine wpAny_bind (wpAny_of_eq (a := ((Value.ref x : Value), [Value.str "__class__" t])) (by first | rfl | (simp only [slotArgs]; rfl)) ?_)
  refine wpAny_bind (wpAny_pure (wpAny_bind (L0.at (wpAny_bind (L3.at ?_)))))
  show wpAny _ _ (holding [Value.builtin "object.__class__"] (call (.builtin "getset_descriptor.__get__") [.builtin "object.__class__", .ref x, .ref D]) >>= ret) _ _ _
  refine wpAny_bind (wpAny_holding (wpAny_call (class_get (s := ⟨hp, g, d, t + 1, os⟩) (ox := ox) (od := od) X I C.hm ?_)))
  refine wpAny_pure ?_
  show wpAny _ _ (handedOut (.ref D)) _ _ _
  rw [handedOut_of (v := .ref D) rfl]
  first
    | exact wpAny_pure (wpAny_pure h)
    | exact wpAny_pure h
    | exact wpAny_pure (wpAny_bind (wpAny_pure (wpAny_pure h)))
theorem held_kit (C : ExcC K D) : KitX K (.ref x) (.ref D) (fun h => InstAt h x ox D od) := by
  refine ⟨fun _ _ _ I => I.type, fun _ _ X _ => ?_, fun h tp dd its n sl X htp => ?_, fun X I k => held_class C X I k⟩
  · obtain ⟨cdD, hcD, _⟩ := any_some C.hd
    unfold clsIn at hcD
    split at hcD
    · rename_i c' d' cd' sl' ho
      intro A' Q' E' s' k q
      unfold isType loadHead
      exact wpAny_bind (wpAny_loadPart (k _ _ (X _ _ ho)) (wpAny_pure q))
    · cases hcD
  · obtain ⟨cdD, hcD, _⟩ := any_some C.hd
    refine Bool.eq_false_iff.mpr fun q => ?_
    obtain rfl : D = tp := Value.ref.inj (beq_iff_eq.mp q)
    unfold clsIn at hcD
    split at hcD
    · rename_i c' d' cd' sl' ho
      cases (X _ _ ho).symm.trans htp
    · cases hcD
end
/-- isinstance(e, c), e a held error at a, of class D, its dict d -/
def rIsP (K : PySem.W.Frag) (D a : Addr) (d : Option Addr) : List V → Hp → VK → Prop := fun xs H Q => ∃ (c : V) (cv : Value) (b : Bool), xs = [.ref a, c] ∧ (∀ u, RelV c u → u = cv) ∧ (∀ dd, d = some dd → ∃ fs, H dd = some (.xd fs)) ∧ PySem.W.kitOne K (.ref D) cv = some b ∧ Q (.bl b) H
theorem call_isP {X : Cx} {a D : Addr} {oe : Obj} {d : Option Addr} (C : ExcC X.K D) (hz : Zc (.ref D) d oe) (hf : ∃ vs, oe.data = .fields vs) (hp : (a, oe) ∈ X.pn) : CallR X (.builtin "isinstance") (rIsP X.K D a d) := by
  intro pins s σ H xs us Q I r h
  obtain ⟨c, cv, b, rfl, hcv, hd, e, q⟩ := h
  cases r with
  | cons rx rr =>
    cases rr with
    | cons rt rr =>
      cases rr
      cases rx
      have ec := hcv _ rt
      subst ec
      obtain ⟨hget, _⟩ := I.pin (a, oe) (List.mem_append.mpr (.inl hp))
      obtain ⟨vs, hv⟩ := hf
      have J : ∃ od, PySem.W.InstAt s.heap a oe D od := by
        obtain ⟨oc, o1, oda, osl⟩ := oe
        obtain ⟨h1, h2⟩ := hz
        dsimp only at h1 h2 hv
        subst h1 h2 hv
        cases o1 with
        | none => exact ⟨none, hget, rfl, rfl, trivial⟩
        | some dd =>
          obtain ⟨fs, ea⟩ := hd dd rfl
          obtain ⟨mA, hns, _⟩ := I.hok dd _ ea
          obtain ⟨od, ho, _⟩ := lookIn_ns hns
          exact ⟨some od, hget, rfl, rfl, ho⟩
      obtain ⟨od, J⟩ := J
      exact PySem.W.kia_one (held_kit C) I.kIn J e (fun z => nomatch z) fun tk => ⟨.bl b, H, I.kept (t' := tk) fun _ _ z => z, rfl, q⟩
/-! ### try with clauses that name the error -/
def wAsMany (K : PySem.W.Frag) (i : Nat) (Wout : WX) (D : Ends) : List (Value × (Addr → Value → Option Addr → TS)) → WX
  | [] => Wout
  | (c, ts) :: l => fun cls d σ H => ∃ b, PySem.W.exmOne K cls c = some b ∧
      (b = true → ∀ a, H a = none → ts a cls d { nx := fun σ' H' => D.nx (σ'.set i none) H', rt := D.rt, bk := fun σ' H' => D.bk (σ'.set i none) H', ct := fun σ' H' => D.ct (σ'.set i none) H' } (σ.set i (some (.ref a))) H) ∧
      (b = false → wAsMany K i Wout D l cls d σ H)
inductive HdsAs (X : Cx) (n : Str) : List ExceptHandler → List (Value × (Addr → Value → Option Addr → TS)) → Prop
  | nil : HdsAs X n [] []
  | cons {x : Str} {c : Value} {ts : Addr → Value → Option Addr → TS} {b₀ : Stmt} {suite : List Stmt} {np pos' : Pos} {hds : List ExceptHandler} {l : List (Value × (Addr → Value → Option Addr → TS))} (hc : Names X x c)
      (hsu : ∀ (a : Addr) (oe : Obj) (cls : Value) (d : Option Addr) (pn : List (Addr × Obj)), L2N.Zn cls d oe → (∃ vs, oe.data = .fields vs) → PSs (X.suite a ((a, oe) :: pn)) (b₀ :: suite) (ts a cls d)) (r : HdsAs X n hds l) :
      HdsAs X n (.ExceptHandler (some (.Name x np)) (some n) (b₀ :: suite) pos' :: hds) ((c, ts) :: l)
  /-- a clause that is never gone -/
  | dead {x : Str} {c : Value} {b₀ : Stmt} {suite : List Stmt} {np pos' : Pos} {hds : List ExceptHandler} {l : List (Value × (Addr → Value → Option Addr → TS))} (hc : Names X x c) (r : HdsAs X n hds l) :
      HdsAs X n (.ExceptHandler (some (.Name x np)) none (b₀ :: suite) pos' :: hds) ((c, fun _ _ _ _ _ _ => False) :: l)
section
open L2N
variable {X : Cx} {n : Str} {i : Nat} {body : List Stmt} {h₀ : ExceptHandler} {hds : List ExceptHandler} {l : List (Value × (Addr → Value → Option Addr → TS))} {pos : Pos} {tb : WX → TS} {Wout : WX}
theorem ps_tryAs (hs : X.stack = X.env :: X.outer) (hf : X.env.frame = some X.env.locals) (hN : X.N.Nodup) (hi : X.N[i]? = some n) (hln : X.env.kindOf n = some .local) (tk : L2N.Takes X Wout)
    (hb : ∀ (W : WX) (pn : List (Addr × Obj)) (xe : Value → Shared → Prop), L2N.Takes (X.tr pn xe) W → PassesOwn (model X.prog X.w) X.A X.env xe → PSs (X.tr pn xe) body (tb W))
    (hh : HdsAs X n (h₀ :: hds) l) : PS X (.Try body (h₀ :: hds) [] [] pos) (fun D σ H => tb (wAsMany X.K i Wout D l) D σ H) := by
  refine ⟨fun pins s σ H D I h => ?_⟩
  have ok := I.ok
  have hfr : X.A.frames = some (X.env :: X.outer) := by rw [ok.frames, hs]
  have hloc : Loc X.env.scope n := .inl hln
  refine wpAny_Try_except (wpAny_mono ((hb (wAsMany X.K i Wout D l) (X.pn ++ pins) (fun e s₁ => wpAny (model X.prog X.w) X.A (noteFrame e X.env) (fun _ s₂ => wpAny (model X.prog X.w) X.A (setFlight e none) (fun _ s₃ =>
    wpAny (model X.prog X.w) X.A (handleBy e X.env (h₀ :: hds)) (SP X pins D) X.xe s₃) X.xe s₂) X.xe s₁) (fun u s' xx => ?_) PassesOwn.looking).run [] s σ H D (I.toTry _) h) (fun f s1 hsp => ?_) (fun e s1 he => he))
  · obtain ⟨a, B, sI, pins', σ', H', cls, d, rfl, J', nb, up, sky, na, os, ag, w⟩ := xx
    have J : Inv X pins σ' H' sI := J'.ofTry ok
    show wpAny (model X.prog X.w) X.A (noteFrame (.ref a) X.env) _ _ _
    refine L2N.Sky.land (B := B) (L := X.env.locals) Zn.steady hfr hf (by rw [← hs]; exact sky) fun h3 fl3 up3 => ?_
    have J3 : Inv X pins σ' H' { s' with heap := h3 } := J.landed nb fl3.1 (up.trans up3) os ag
    obtain ⟨oe3, vs3, he3, hz3, hd3⟩ := fl3.there
    have nfr : a ∉ frs (X.env :: X.outer) := fun hm => by
      obtain ⟨_, o', e', hnf⟩ := fl3.2.2.1.mem hm
      rw [he3] at e'; cases e'
      exact hnf _ hd3
    have nL : a ≠ X.env.locals := fun z => nfr (List.mem_filterMap.mpr ⟨X.env, List.mem_cons_self, by rw [hf, z]⟩)
    have nF : a ∉ X.fs := fun hm => by
      obtain ⟨e, he, q⟩ := List.mem_filterMap.mp hm
      exact nfr (List.mem_filterMap.mpr ⟨e, List.mem_cons_of_mem _ he, q⟩)
    have S3 := J3.suite he3 hd3 na nL nF
    have go : ∀ {hds' : List ExceptHandler} {l' : List (Value × (Addr → Value → Option Addr → TS))}, HdsAs X n hds' l' → wAsMany X.K i Wout D l' cls d σ' H' →
        wpAny (model X.prog X.w) X.A (handleBy (.ref a) X.env hds') (SP X pins D) X.xe { s' with heap := h3 } := by
      intro hds' l' hk
      induction hk with
      | nil =>
        intro w
        refine wpAny_handleBy_nil ?_
        obtain ⟨k1, k2, k3, oe, vs, T, oT, ts', he, hz, hd, h1, hr⟩ := id fl3
        unfold PySem.passOn
        refine wpAny_bind (wpAny_field he hd h1 ?_)
        rw [if_neg (show ¬ ((Value.ref T == Value.none) = true) from by simp)]
        have fin : wpAny (model X.prog X.w) X.A (setFlight (.ref a) X.env.frame) (fun _ s4 => wpAny (model X.prog X.w) X.A (throw (.ref a) : Sem Flow) (SP X pins D) X.xe s4) X.xe { s' with heap := h3 } := by
          rw [hf]
          exact HandSPX.setFlight_upZ fl3 fun h4 hh4 up4 => wpAny_throw (tk _ _ ⟨a, B, sI, pins, σ', H', cls, d, rfl, J, nb, (up.trans up3).trans up4, .inr (.inr (by rw [hs]; exact hh4)), na, os, ag, w⟩)
        first
          | exact wpAny_bind (wpAny_pure (wpAny_bind fin))
          | exact wpAny_bind fin
      | @dead x c b₀ suite np pos' hds2 l2 hc r ih =>
        intro w
        obtain ⟨b, hb1, hyes, hno⟩ := w
        refine wpAny_handleBy_cons (codeAny_handlers_test ?_) (by intro q; cases q)
        have LT : PySem.W.Looks (model X.prog X.w) h3 (typeOf (.ref a)) cls := fun A Q E s k q => wpAny_typeOf_ref (k _ _ he3) (by rw [hz3.1]; exact q)
        have LM := PySem.W.exm_one (M := model X.prog X.w) (J3.kIn) LT hb1
        have test : ∀ {Q : Value → Shared → Prop} {E : Value → Shared → Prop}, Q c { s' with heap := h3 } → wpAny (model X.prog X.w) (X.A.mark (some (.ref a))) (eval (.Name x np) X.env) Q E { s' with heap := h3 } := fun {Q E} q => by
          obtain ⟨hg, hdbg, hm | ⟨hm, hv, hnn⟩⟩ := hc
          · exact ld_glob (X := X.suite a ((a, oe3) :: (X.pn ++ pins))) S3 hg hm q hdbg
          · exact ld_blt (X := X.suite a ((a, oe3) :: (X.pn ++ pins))) S3 hg hm hv q hnn hdbg
        refine test (LM.here ?_)
        cases b with
        | false =>
          show wpAny _ X.A (handleBy (.ref a) X.env hds2) _ _ _
          exact ih (hno rfl)
        | true => exact (hyes rfl a na).elim
      | @cons x c ts b₀ suite np pos' hds2 l2 hc hsu r ih =>
        intro w
        obtain ⟨b, hb1, hyes, hno⟩ := w
        refine wpAny_handleBy_cons (codeAny_handlers_test ?_) (by intro q; cases q)
        have LT : PySem.W.Looks (model X.prog X.w) h3 (typeOf (.ref a)) cls := fun A Q E s k q => wpAny_typeOf_ref (k _ _ he3) (by rw [hz3.1]; exact q)
        have LM := PySem.W.exm_one (M := model X.prog X.w) (J3.kIn) LT hb1
        have test : ∀ {Q : Value → Shared → Prop} {E : Value → Shared → Prop}, Q c { s' with heap := h3 } → wpAny (model X.prog X.w) (X.A.mark (some (.ref a))) (eval (.Name x np) X.env) Q E { s' with heap := h3 } := fun {Q E} q => by
          obtain ⟨hg, hdbg, hm | ⟨hm, hv, hnn⟩⟩ := hc
          · exact ld_glob (X := X.suite a ((a, oe3) :: (X.pn ++ pins))) S3 hg hm q hdbg
          · exact ld_blt (X := X.suite a ((a, oe3) :: (X.pn ++ pins))) S3 hg hm hv q hnn hdbg
        refine test (LM.here ?_)
        cases b with
        | false =>
          show wpAny _ X.A (handleBy (.ref a) X.env hds2) _ _ _
          exact ih (hno rfl)
        | true =>
          refine codeAny_handlers_suite_as (HandSPX.lands_againZ fl3 fun h4 fl4 up4 => ?_)
          have J4 : Inv X pins σ' H' { s' with heap := h4 } := J.landed nb fl4.1 ((up.trans up3).trans up4) os ag
          obtain ⟨oe4, vs4, he4, hz4, hd4⟩ := fl4.there
          have S4 := J4.suite he4 hd4 na nL nF
          refine store_ok (X := X.suite a ((a, oe4) :: (X.pn ++ pins))) (v := .ref a) S4 hN hi hloc rfl (fun s5 S5 => ?_) (.inr hln)
          refine wpAny_mono ((hsu a oe4 cls d (X.pn ++ pins) hz4 ⟨_, hd4⟩).run [] s5 _ H' _ S5 (hyes rfl a na)) (fun f s6 hsp => ?_) (fun _ _ z => False.elim z)
          have done : ∀ {σ6 : L2.St} {H6 : Hp} {Q : Shared → Prop}, Inv (X.suite a ((a, oe4) :: (X.pn ++ pins))) [] σ6 H6 s6 → (∀ s7, Inv X pins (σ6.set i none) H6 s7 → Q s7) →
              wpAny (model X.prog X.w) X.A (do bindName X.env n .none; unbindBehindTheSuite X.env n pos') (fun _ s7 => Q s7) X.xe s6 := fun {σ6 H6 Q} S6 hq => gone_ok (S6.unsuite ok) hN hi hln hq
          cases f with
          | ret u =>
            obtain ⟨v6, σ6, H6, S6, r6, q6⟩ := hsp
            exact done S6 fun s7 J7 => ⟨_, _, _, J7, r6, q6⟩
          | next => obtain ⟨σ6, H6, S6, q6⟩ := hsp; exact done S6 fun s7 J7 => ⟨_, _, J7, q6⟩
          | brk => obtain ⟨σ6, H6, S6, q6⟩ := hsp; exact done S6 fun s7 J7 => ⟨_, _, J7, q6⟩
          | cont => obtain ⟨σ6, H6, S6, q6⟩ := hsp; exact done S6 fun s7 J7 => ⟨_, _, J7, q6⟩
    exact go hh w
  · cases f with
    | next => obtain ⟨σ', H', J', q⟩ := hsp; exact wpAny_execs_nil ⟨σ', H', J'.ofTry ok, q⟩
    | brk => obtain ⟨σ', H', J', q⟩ := hsp; exact ⟨σ', H', J'.ofTry ok, q⟩
    | cont => obtain ⟨σ', H', J', q⟩ := hsp; exact ⟨σ', H', J'.ofTry ok, q⟩
    | ret u => obtain ⟨v, σ', H', J', r, q⟩ := hsp; exact ⟨v, σ', H', J'.ofTry ok, r, q⟩
end
end LL

set_option Elab.async false
set_option linter.all false
set_option maxRecDepth 100000
set_option maxHeartbeats 2000000
/-! LNam: a def that is called in an except suite with the held error itself -/
namespace LL
open PySem PySem.Spec PyProof.Rows L2 L2H
/-- what a def promises of a call whose argument may be the held error p -/
structure FnP (P : Program) (w : World) (K : PySem.W.Frag) (mg : Str → Option Value) (base : Heap) (k : Nat) (f : Addr) (fd : FuncData) (ps : List Str) (sp : Addr × Obj → Sp) : Prop where
  len : ∀ p vs H Q E, sp p vs H Q E → vs.length = ps.length
  run : ∀ (A : Around) (outer : List Env) (s : Shared) (H : Hp) (args : Args) (us : List Value) (vs : List V) (Q : VK) (E : XK) (p : Addr × Obj), RoomH k A → PinOk outer H s p → Env0 P w K mg base A outer s H → BindsTo s fd args (ps.zip us) → Vals vs us → sp p vs H Q E →
    codeAny (model P w) A (.call (.ref f) args) (CR CX0 outer P w H s Q E) s
theorem okP {P : Program} {w : World} {K : PySem.W.Frag} {mg : Str → Option Value} {base : Heap} {x qual : Str} {st : Stmt} {f : Addr} {fd : FuncData} {N ps : List Str} {k : Nat} {sp : Addr × Obj → Sp} (F : Fun K x qual st f fd) (S : FnScope N ps (defScope st))
    (len : ∀ p vs H Q E, sp p vs H Q E → vs.length = ps.length)
    (hb : ∀ (cdv : Value) (A : Around) (outer : List Env) (s : Shared) (H : Hp) (vs : List V) (Q : VK) (E : XK) (p : Addr × Obj), RoomH k (A.deeper (envOfC qual (defScope st) s.heap.objs.size f cdv)) → sp p vs H Q E →
      ∃ t, PSs (cxH CX0 P w K mg base N qual (defScope st) f cdv A outer s H E p) (defBody st) t ∧ t { nx := fun _ H' => Q .non H', rt := Q } (L2.start N vs) H) :
    FnP P w K mg base (k + 1) f fd ps sp := by
  obtain ⟨o1, o2, kV, doc, pm, an, cdv, ct, osl, e, lk, hcd⟩ := F.ex
  subst e
  constructor
  case len => exact len
  case run =>
    intro A outer s H args us vs Q E p hr hpin e0 hbd r hsp
    have hl := len _ _ _ _ _ hsp
    have inK : K.In s.heap := e0.mod.kin.keeps fun b o e => (e0.bs b o e).1
    have noLim : s.heap.NoLimit := e0.mod.nolimit.keeps fun b o e => (e0.bs b o e).1
    have kinds : ∀ y ∈ ps.zip us, (defScope st).names.lookup y.1 = some .local ∨ ((defScope st).names.lookup y.1 = some .cell ∧ ((cellsFrom (s.heap.objs.size + 1) (defScope st).names []).lookup y.1).isSome = true) := by
      rintro ⟨n, v⟩ hy
      rcases S.par n (List.of_mem_zip hy).1 with q | q
      · exact .inl q
      · exact .inr ⟨q, PySem.W.cellsFrom_some _ _ _ (.inl q)⟩
    refine codeAny_call_function hr.depth (inK _ _ lk) rfl S.co S.gen rfl (PySem.W.codeRec_of inK hcd) (hbd _ _ _ _ (wpAny_newFunctionEnv_cells S.kind kinds fun env he s1 x => ?_))
    subst he
    refine ⟨noLim.keeps x.toInCall.keep, codeAny_func ?_⟩
    obtain ⟨t, ht, hq⟩ := hb cdv A outer s H vs Q E p (hr.deeper _) hsp
    have I := inv_startH (CX := CX0) (mg := mg) (E := E) S hpin e0 hl r x
    refine wpAny_mono (ht.run [] s1 (L2.start N vs) H _ I hq) (fun fl s' hs => ?_) fun e s' hs => hs
    cases fl with
    | ret u =>
      obtain ⟨v, σ', H', J, rv, q⟩ := hs
      exact ⟨v, H', J.os, J.bare, J.base, J.hok, rv, q⟩
    | next =>
      obtain ⟨σ', H', J, q⟩ := hs
      exact ⟨V.non, H', J.os, J.bare, J.base, J.hok, rfl, q⟩
    | brk => obtain ⟨_, _, _, q⟩ := hs; exact q.elim
    | cont => obtain ⟨_, _, _, q⟩ := hs; exact q.elim
def tCallP (sp : Addr × Obj → Sp) (p : Addr × Obj) (E : XK) (t : TA) : TE := fun σ H Q => t σ H fun vs H1 => sp p vs H1 Q E
theorem pe_callP {X : Cx} {k : Nat} {f : Addr} {fd : FuncData} {ps : List Str} {sp : Addr × Obj → Sp} {E : XK} {x : Str} {q pos : Pos} {e : Expr} {es : List Expr} {t : TA} {p : Addr × Obj} (F : FnP X.prog X.w X.K X.mg X.base k f fd ps sp) (hr : RoomH k X.A) (hp : p ∈ X.pn) (hg : Gl X x)
    (hm : X.mg x = some (.ref f)) (hk : PySem.W.keepIn X.K (.ref f) = true) (hb : Binds X.K fd ps []) (ha : PA X (e :: es) t) (hdb : (x == ("__debug__" : Str)) = false := by decide) (he : starEach (e :: es) X.env = (false, eval e X.env) :: starEach es X.env := by rfl)
    (hpl : (backTo pos (starEach es X.env)).any (·.1) = false := by rfl) : PE X (.Call (.Name x q) (e :: es) [] pos) (tCallP sp p E t) := by
  refine ⟨fun pins s σ H Q I h => wpAny_Call_Name_kw (ld_glob I hg hm ?_ hdb)⟩
  refine PySem.W.callWith_K (h₀ := X.base) I.ok.mod.kin hk (thn (ha.run pos pins s σ H _ I h) fun us s1 ⟨vs, H1, I1, r, hs⟩ => ⟨I1.kIn, ?_⟩) he hpl
  have hl : us.length = ps.length := by rw [← r.length]; exact F.len _ _ _ _ _ hs
  have b := hb s1 us I1.kIn (by rw [List.append_nil]; exact hl)
  rw [List.append_nil] at b
  have P1 := I1.pin p (List.mem_append_left _ hp)
  have hpin : PinOk X.stack H1 s1 p := ⟨P1.1, P1.2.1, fun hm => (List.mem_cons.mp (I1.stkSub p.1 hm)).elim P1.2.2.1 P1.2.2.2.1, P1.2.2.2.2⟩
  refine wpAny_call (codeAny_mono (F.run X.A X.stack s1 H1 ⟨us, []⟩ us vs Q E p hr hpin I1.env0 b r hs) fun r s' hq => ?_)
  cases r with
  | error e => exact False.elim hq
  | ok fl =>
    cases fl with
    | ret u => exact I1.after hq
    | next => exact False.elim hq
    | brk => exact False.elim hq
    | cont => exact False.elim hq
end LL

set_option Elab.async false
set_option linter.all false
set_option maxRecDepth 100000
set_option maxHeartbeats 400000
namespace LL
open PySem PySem.Spec PyProof.Rows L2
variable [KW]
theorem szL_le {k : Nat} : ∀ {ds : List PyData}, (∀ d ∈ ds, sz d ≤ k) → szL ds ≤ k * ds.length
  | [], _ => by rw [szL_nil]; exact Nat.zero_le _
  | d :: ds, h => by
    have := szL_le (ds := ds) (fun x hx => h x (List.mem_cons_of_mem _ hx))
    have := h d List.mem_cons_self
    rw [szL_cons, List.length_cons, Nat.mul_succ]
    omega
theorem depL_le {k : Nat} : ∀ {ds : List PyData}, (∀ d ∈ ds, dep d ≤ k) → depL ds ≤ k
  | [], _ => by rw [depL_nil]; exact Nat.zero_le _
  | d :: ds, h => by
    have := depL_le (ds := ds) (fun x hx => h x (List.mem_cons_of_mem _ hx))
    have := h d List.mem_cons_self
    rw [depL_cons]
    omega
theorem IsDs.setV {M : List Addr} {H : Hp} {v : V} {d : PyData} (x : Is M H d v) : ∀ {ds : List PyData} {vs : List V} (j : Nat), IsDs M H ds vs → IsDs M H (ds.set j d) (vs.set j v)
  | [], vs, j, y => by
    unfold IsDs at y
    subst y
    exact IsDs.nil
  | e :: ds, vs, 0, y => by
    unfold IsDs at y
    obtain ⟨v', r, rfl, h1, h2⟩ := y
    exact IsDs.cons x h2
  | e :: ds, vs, j + 1, y => by
    unfold IsDs at y
    obtain ⟨v', r, rfl, h1, h2⟩ := y
    exact IsDs.cons h1 (IsDs.setV x j h2)
theorem mem_set {α : Type} {P : α → Prop} {d : α} (hd : P d) : ∀ {ds : List α} (j : Nat), (∀ x ∈ ds, P x) → ∀ x ∈ ds.set j d, P x := fun {ds} j h x hx => by
  rcases List.mem_or_eq_of_mem_set hx with h1 | h1
  · exact h x h1
  · rw [h1]; exact hd
/-- a sheet of good rows, a stream beside it -/
structure ShAt (H : Hp) (s sh : Addr) (rs : List V) (ds : List PyData) : Prop where
  str : StrAt [s] H s
  ne : sh ≠ s
  at_ : H sh = some (.lst rs)
  rd : IsDs [s] H ds rs
  len : ds.length ≤ 200
  sm : ∀ d ∈ ds, Small d
theorem ShAt.adv {H H' : Hp} {s sh : Addr} {rs : List V} {ds : List PyData} (x : ShAt H s sh rs ds) (a : Adv [s] H H') (hs : StrAt [s] H' s) : ShAt H' s sh rs ds :=
  ⟨hs, x.ne, a _ _ (by simpa using x.ne) x.at_, x.rd.adv a, x.len, x.sm⟩
theorem ShAt.same {H H' : Hp} {s sh : Addr} {rs : List V} {ds : List PyData} (x : ShAt H s sh rs ds) (a : Adv [] H H') : ShAt H' s sh rs ds := x.adv (Adv.nil a) (x.str.same a)
theorem ShAt.is {H : Hp} {s sh : Addr} {rs : List V} {ds : List PyData} (x : ShAt H s sh rs ds) : Is [s] H (.list ds) (.ref sh) := Is.lst x.at_ (by simpa using x.ne) x.rd
/-- a copy that is bent -/
structure BtAt (H : Hp) (s bt : Addr) (rs : List V) (ds : List PyData) : Prop where
  str : StrAt [bt, s] H s
  ne : bt ≠ s
  at_ : H bt = some (.lst rs)
  rd : IsDs [bt, s] H ds rs
  len : ds.length ≤ 300
  sm : ∀ d ∈ ds, sz d ≤ 10 ∧ dep d ≤ 3
theorem BtAt.al {H : Hp} {s bt : Addr} {rs : List V} {ds : List PyData} (x : BtAt H s bt rs ds) : ∀ b ∈ [bt, s], H b ≠ none := fun b hb => by
  simp at hb
  rcases hb with h | h
  · rw [h, x.at_]; simp
  · rw [h]; exact x.str.here
theorem BtAt.adv {H H' : Hp} {s bt : Addr} {rs : List V} {ds : List PyData} (x : BtAt H s bt rs ds) (a : Adv [s] H H') (hs : StrAt [bt, s] H' s) : BtAt H' s bt rs ds :=
  ⟨hs, x.ne, a _ _ (by simpa using x.ne) x.at_, x.rd.adv (a.more (by simp)), x.len, x.sm⟩
theorem BtAt.same {H H' : Hp} {s bt : Addr} {rs : List V} {ds : List PyData} (x : BtAt H s bt rs ds) (a : Adv [] H H') : BtAt H' s bt rs ds := x.adv (Adv.nil a) (x.str.same a)
theorem BtAt.is {H : Hp} {s bt : Addr} {rs : List V} {ds : List PyData} (x : BtAt H s bt rs ds) : Is [] H (.list ds) (.ref bt) := Is.lst x.at_ (by simp) (x.rd.less (by simp))
theorem BtAt.szB {H : Hp} {s bt : Addr} {rs : List V} {ds : List PyData} (x : BtAt H s bt rs ds) : sz (.list ds) ≤ 500000 := by
  have := szL_le (k := 10) (fun d hd => (x.sm d hd).1)
  have := x.len
  rw [sz_lst]
  omega
theorem BtAt.put {H : Hp} {s bt : Addr} {rs : List V} {ds : List PyData} (x : BtAt H s bt rs ds) {v : V} {d : PyData} (j : Nat) (hv : Is [bt, s] H d v) (h1 : sz d ≤ 10) (h2 : dep d ≤ 3) : BtAt (upd H bt (.lst (rs.set j v))) s bt (rs.set j v) (ds.set j d) := by
  have a : Adv [bt] H (upd H bt (.lst (rs.set j v))) := Adv.set (by simp)
  have a2 : Adv [bt, s] H (upd H bt (.lst (rs.set j v))) := a.more (by simp)
  exact ⟨x.str.adv a (by simpa using x.ne.symm) (by simp), x.ne, upd_same, (IsDs.setV hv j x.rd).adv a2, by rw [List.length_set]; exact x.len, mem_set (P := fun d => sz d ≤ 10 ∧ dep d ≤ 3) ⟨h1, h2⟩ j x.sm⟩
theorem BtAt.push {H : Hp} {s bt : Addr} {rs : List V} {ds : List PyData} (x : BtAt H s bt rs ds) {v : V} {d : PyData} (hv : Is [bt, s] H d v) (h1 : sz d ≤ 10) (h2 : dep d ≤ 3) (hl : ds.length ≤ 200) : BtAt (upd H bt (.lst (rs ++ [v]))) s bt (rs ++ [v]) (ds ++ [d]) := by
  have a : Adv [bt] H (upd H bt (.lst (rs ++ [v]))) := Adv.set (by simp)
  have a2 : Adv [bt, s] H (upd H bt (.lst (rs ++ [v]))) := a.more (by simp)
  refine ⟨x.str.adv a (by simpa using x.ne.symm) (by simp), x.ne, upd_same, (x.rd.app (.cons hv .nil)).adv a2, by rw [List.length_append, List.length_singleton]; omega, fun y hy => ?_⟩
  rcases List.mem_append.mp hy with h | h
  · exact x.sm y h
  · rw [List.mem_singleton.mp h]; exact ⟨h1, h2⟩
theorem BtAt.sheet {H0 H : Hp} {s sh bt : Addr} {rs rs' : List V} {ds ds' : List PyData} (x : BtAt H s bt rs' ds') (y : ShAt H0 s sh rs ds) (n : H0 bt = none) (a : Adv [bt, s] H0 H) : ShAt H s sh rs ds :=
  y.adv (a.drop n) (x.str.less (by simp))
end LL

set_option Elab.async false
set_option linter.all false
set_option maxRecDepth 100000
set_option maxHeartbeats 400000
/-! LNd: the nodes of a right sheet by themselves -/
namespace LL
open PySem PySem.Spec PyProof.Rows L2
variable [KW]
inductive Op3
  | and | or | imp
  deriving DecidableEq
def Op3.str : Op3 → Str
  | .and => "and"
  | .or => "or"
  | .imp => "if"
inductive Nd
  | no | letter (i : Nat) | bin (o : Op3) (j k : Nat) | box (j : Nat)
  deriving DecidableEq
def Nd.keys : Nd → List Key
  | .no => [.inr "no"]
  | .letter i => [.inr "letter", .inl i]
  | .bin o j k => [.inr o.str, .inl j, .inl k]
  | .box j => [.inr "box", .inl j]
def Nd.data (n : Nd) : PyData := .tuple (n.keys.map keyDt)
def Nd.ok (boxed : Bool) (at_ : Nat) : Nd → Bool
  | .no => true
  | .letter i => decide (i ≤ 7)
  | .bin _ j k => decide (j < at_) && decide (k < at_)
  | .box j => boxed && decide (j < at_)
theorem op_inj {o p : Op3} (h : o.str = p.str) : o = p := by
  cases o <;> cases p <;> first | rfl | exact absurd h (by decide)
theorem op_no (o : Op3) : o.str ≠ "no" ∧ o.str ≠ "letter" ∧ o.str ≠ "box" := by cases o <;> decide
theorem keys_inj {m n : Nd} (h : m.keys = n.keys) : m = n := by
  cases m <;> cases n <;> simp only [Nd.keys, List.cons.injEq, Sum.inr.injEq, Sum.inl.injEq, and_true, reduceCtorEq, and_false] at h
  case no.no => rfl
  case letter.letter i j =>
    have := h.2
    congr 1
    omega
  case letter.box i j => exact absurd h.1 (by decide)
  case bin.bin o j k o' j' k' =>
    obtain ⟨h1, h2, h3⟩ := h
    have e1 := op_inj h1
    have e2 : j = j' := by omega
    have e3 : k = k' := by omega
    subst e1; subst e2; subst e3; rfl
  case box.letter i j => exact absurd h.1 (by decide)
  case box.box i j =>
    have := h.2
    congr 1
    omega
theorem Nd.keysD (n : Nd) : LL.keysD n.data = n.keys := by
  cases n <;> rfl
theorem num_nat {lo hi : Int} {p : PyData} (h : isNum lo hi p = true) (h0 : 0 ≤ lo) : ∃ i : Nat, p = .int i ∧ lo ≤ i ∧ (i : Int) ≤ hi := by
  cases p with
  | int i =>
    simp only [isNum, Bool.and_eq_true, decide_eq_true_eq] at h
    exact ⟨i.toNat, by rw [Int.toNat_of_nonneg (by omega)], by omega, by omega⟩
  | _ => cases h
/-- what the check of a node says -/
theorem nodeB_nd {boxed : Bool} {at_ : Nat} {d : PyData} (h : nodeB boxed at_ d = true) : ∃ n : Nd, d = n.data ∧ n.ok boxed at_ = true := by
  unfold nodeB at h
  split at h
  case h_2 => cases h
  rename_i w ps
  split at h
  case isFalse => cases h
  rename_i hn
  have one : ∀ {lo hi : Int} {q : List PyData}, q.length = 1 → 0 ≤ lo → q.all (isNum lo hi) = true → ∃ i : Nat, q = [.int i] ∧ lo ≤ i ∧ (i : Int) ≤ hi := fun {lo hi q} hl h0 ha => by
    match q, hl with
    | [p], _ =>
      simp only [List.all_cons, List.all_nil, Bool.and_true] at ha
      obtain ⟨i, rfl, h1, h2⟩ := num_nat ha h0
      exact ⟨i, rfl, h1, h2⟩
  have two : ∀ {lo hi : Int} {q : List PyData}, q.length = 2 → 0 ≤ lo → q.all (isNum lo hi) = true → ∃ i k : Nat, q = [.int i, .int k] ∧ (i : Int) ≤ hi ∧ (k : Int) ≤ hi := fun {lo hi q} hl h0 ha => by
    match q, hl with
    | [p, r], _ =>
      simp only [List.all_cons, List.all_nil, Bool.and_true, Bool.and_eq_true] at ha
      obtain ⟨i, rfl, h1, h2⟩ := num_nat ha.1 h0
      obtain ⟨k, rfl, h3, h4⟩ := num_nat ha.2 h0
      exact ⟨i, k, rfl, h2, h4⟩
  unfold nItems at hn
  by_cases e1 : w = "letter"
  · subst e1
    rw [if_pos rfl] at hn h
    have hl : ps.length = 1 := by
      have := Option.some.inj hn
      omega
    obtain ⟨i, rfl, h1, h2⟩ := one hl (by omega) h
    exact ⟨.letter i, rfl, by simp only [Nd.ok, decide_eq_true_eq]; omega⟩
  rw [if_neg e1] at hn h
  by_cases e2 : w = "no"
  · subst e2
    rw [if_pos rfl] at hn
    have hl : ps = [] := by
      have := Option.some.inj hn
      exact List.length_eq_zero_iff.mp (by omega)
    subst hl
    exact ⟨.no, rfl, rfl⟩
  rw [if_neg e2] at hn
  have bin : ∀ o : Op3, w = o.str → ps.length = 2 → (if (w = "box" && !boxed) = true then false else ps.all (isNum 0 ((at_ : Int) - 1))) = true → ∃ n : Nd, PyData.tuple (.str w :: ps) = n.data ∧ n.ok boxed at_ = true := fun o ew hl hh => by
    have nb : ¬ (w = "box" && !boxed) = true := by
      intro z
      simp only [Bool.and_eq_true, decide_eq_true_eq] at z
      exact (op_no o).2.2 (by rw [← ew]; exact z.1)
    rw [if_neg nb] at hh
    obtain ⟨i, k, rfl, h2, h3⟩ := two hl (by omega) hh
    subst ew
    exact ⟨.bin o i k, rfl, by simp only [Nd.ok, Bool.and_eq_true, decide_eq_true_eq]; omega⟩
  by_cases e3 : w = "and"
  · subst e3
    rw [if_pos rfl] at hn
    exact bin .and rfl (by have := Option.some.inj hn; omega) h
  rw [if_neg e3] at hn
  by_cases e4 : w = "or"
  · subst e4
    rw [if_pos rfl] at hn
    exact bin .or rfl (by have := Option.some.inj hn; omega) h
  rw [if_neg e4] at hn
  by_cases e5 : w = "if"
  · subst e5
    rw [if_pos rfl] at hn
    exact bin .imp rfl (by have := Option.some.inj hn; omega) h
  rw [if_neg e5] at hn
  by_cases e6 : w = "box"
  · subst e6
    rw [if_pos rfl] at hn
    have hl : ps.length = 1 := by
      have := Option.some.inj hn
      omega
    cases boxed with
    | false => exact absurd h (by simp)
    | true =>
      have h' : ps.all (isNum 0 ((at_ : Int) - 1)) = true := by simpa using h
      obtain ⟨i, rfl, h1, h2⟩ := one hl (by omega) h'
      exact ⟨.box i, rfl, by simp only [Nd.ok, Bool.true_and, decide_eq_true_eq]; omega⟩
  rw [if_neg e6] at hn
  cases hn
/-- a right sheet -/
def okSheet (boxed : Bool) (ns : List Nd) : Prop := ns.Nodup ∧ ∀ (i : Nat) (n : Nd), ns[i]? = some n → n.ok boxed i = true
/-- the row of a node, a new one at the end if there is none -/
def rowF (ns : List Nd) (n : Nd) : Nat × List Nd := if n ∈ ns then (ns.idxOf n, ns) else (ns.length, ns ++ [n])
theorem rowF_lt (ns : List Nd) (n : Nd) : (rowF ns n).1 < (rowF ns n).2.length := by
  unfold rowF
  split
  · exact List.idxOf_lt_length_of_mem (by assumption)
  · simp
theorem rowF_pre (ns : List Nd) (n : Nd) : ns <+: (rowF ns n).2 := by
  unfold rowF
  split
  · exact List.prefix_refl _
  · exact List.prefix_append _ _
theorem rowF_ok {boxed : Bool} {ns : List Nd} {n : Nd} (h : okSheet boxed ns) (hn : n.ok boxed ns.length = true) : okSheet boxed (rowF ns n).2 := by
  unfold rowF
  split
  · exact h
  · rename_i hm
    refine ⟨?_, fun i m hi => ?_⟩
    · rw [List.nodup_append]
      refine ⟨h.1, by simp, fun a ha b hb => ?_⟩
      rw [List.mem_singleton.mp hb]
      exact fun e => hm (e ▸ ha)
    · rcases Nat.lt_or_ge i ns.length with hl | hl
      · rw [List.getElem?_append_left hl] at hi
        exact h.2 i m hi
      · have e : i = ns.length := by
          have := (List.getElem?_eq_some_iff.mp hi).1
          simp at this
          omega
        subst e
        simp at hi
        subst hi
        exact hn
/-- the row that denies row r -/
def denyF (ns : List Nd) (r : Nat) : Nat × List Nd := rowF (rowF ns .no).2 (.bin .imp r (rowF ns .no).1)
theorem memK_iff {k : List Key} {l : List (List Key)} : memK k l = true ↔ k ∈ l := by
  unfold memK
  rw [List.any_eq_true]
  constructor
  · rintro ⟨x, hx, e⟩
    rw [← of_decide_eq_true e]; exact hx
  · intro h
    exact ⟨k, h, by simp⟩
theorem wrongF_none {most : Int} {boxed : Bool} : ∀ {ds : List PyData} {pre : List Nd}, okSheet boxed pre → wrongF most boxed pre.length (pre.map Nd.keys) ds = none →
    ∃ ns : List Nd, ds = ns.map Nd.data ∧ okSheet boxed (pre ++ ns) ∧ (ns = [] ∨ ((pre.length + ns.length : Nat) : Int) ≤ most)
  | [], pre, hp, _ => ⟨[], rfl, by rw [List.append_nil]; exact hp, .inl rfl⟩
  | d :: ds, pre, hp, h => by
    unfold wrongF at h
    split at h
    case isFalse => cases h
    rename_i hm
    split at h
    case isFalse => cases h
    rename_i hb
    obtain ⟨n, rfl, hn⟩ := nodeB_nd hb
    split at h
    case isTrue => cases h
    rename_i hk
    rw [Nd.keysD] at hk h
    have hnm : n ∉ pre := fun z => hk (memK_iff.mpr (List.mem_map_of_mem z))
    have hp2 : okSheet boxed (pre ++ [n]) := by
      have := rowF_ok hp hn
      unfold rowF at this
      rw [if_neg hnm] at this
      exact this
    have h2 : wrongF most boxed (pre ++ [n]).length ((pre ++ [n]).map Nd.keys) ds = none := by
      rw [List.map_append, List.length_append]
      exact h
    obtain ⟨ns, e, h3, h4⟩ := wrongF_none hp2 h2
    refine ⟨n :: ns, by rw [List.map_cons, ← e], by rw [List.append_assoc] at h3; exact h3, .inr ?_⟩
    rcases h4 with h4 | h4
    · subst h4
      simp only [List.length_cons, List.length_nil]
      omega
    · rw [List.length_append] at h4
      simp only [List.length_cons, List.length_nil] at h4 ⊢
      omega
theorem wrongD_none {most : Int} {boxed : Bool} {d : PyData} (h0 : 0 ≤ most) (h : wrongD most boxed d = none) : ∃ ns : List Nd, d = .list (ns.map Nd.data) ∧ okSheet boxed ns ∧ (ns.length : Int) ≤ most := by
  cases d with
  | list ds =>
    obtain ⟨ns, e, h1, h2⟩ := wrongF_none (pre := []) ⟨List.nodup_nil, fun i n hi => by simp at hi⟩ h
    refine ⟨ns, by rw [e], h1, ?_⟩
    rcases h2 with h2 | h2
    · rw [h2]; exact h0
    · simpa using h2
  | _ => cases h
end LL

set_option Elab.async false
set_option linter.all false
set_option maxRecDepth 100000
set_option maxHeartbeats 400000
/-! LRead: the rows below rows; the three readings of rows, in plain words -/
namespace LL
open PySem PySem.Spec PyProof.Rows L2
variable [KW]
def Nd.parts : Nd → List Nat
  | .no => []
  | .letter _ => []
  | .bin _ j k => [j, k]
  | .box j => [j]
theorem parts_lt {boxed : Bool} {i : Nat} {n : Nd} (h : n.ok boxed i = true) : ∀ p ∈ n.parts, p < i := by
  cases n <;> simp [Nd.ok, Nd.parts] at h ⊢
  · exact h
  · exact h.2
def markP (m : Nat → Bool) (ps : List Nat) : Nat → Bool := fun x => m x || ps.contains x
def markDown (ns : List Nd) : Nat → (Nat → Bool) → Nat → Bool
  | 0, m => m
  | k + 1, m => markDown ns k (if m k = true then markP m ((ns[k]?.getD .no).parts) else m)
theorem markP_keep {m : Nat → Bool} {ps : List Nat} {x : Nat} (h : m x = true) : markP m ps x = true := by
  unfold markP; rw [h]; rfl
theorem markP_new {m : Nat → Bool} {ps : List Nat} {x : Nat} (h : x ∈ ps) : markP m ps x = true := by
  unfold markP
  rw [show ps.contains x = true from by simpa using h, Bool.or_true]
theorem markDown_keep (ns : List Nd) : ∀ (k : Nat) (m : Nat → Bool) (x : Nat), m x = true → markDown ns k m x = true
  | 0, m, x, h => h
  | k + 1, m, x, h => by
    unfold markDown
    refine markDown_keep ns k _ x ?_
    split
    · exact markP_keep h
    · exact h
/-- what stands at k and above isn't changed by the walk from k down -/
theorem markDown_above {boxed : Bool} {ns : List Nd} (ok : okSheet boxed ns) : ∀ (k : Nat) (m : Nat → Bool) (x : Nat), k ≤ ns.length → k ≤ x + 1 → markDown ns k m x = m x
  | 0, m, x, _, _ => rfl
  | k + 1, m, x, hk, hx => by
    unfold markDown
    rw [markDown_above ok k _ x (by omega) (by omega)]
    split
    · have hn : ns[k]? = some ns[k] := List.getElem?_eq_getElem (by omega)
      unfold markP
      rw [hn]
      have hnot : (ns[k] : Nd).parts.contains x = false := by
        refine Bool.eq_false_iff.mpr fun z => ?_
        have hm : x ∈ (ns[k] : Nd).parts := by simpa using z
        have := parts_lt (ok.2 k _ hn) x hm
        omega
      show (m x || (ns[k] : Nd).parts.contains x) = m x
      rw [hnot, Bool.or_false]
    · rfl
theorem markDown_parts {boxed : Bool} {ns : List Nd} (ok : okSheet boxed ns) : ∀ (k : Nat) (m : Nat → Bool) (i : Nat) (n : Nd), k ≤ ns.length → i < k → ns[i]? = some n → markDown ns k m i = true → ∀ p ∈ n.parts, markDown ns k m p = true
  | 0, m, i, n, _, hi, _, _ => by omega
  | k + 1, m, i, n, hk, hi, hn, h => by
    intro p hp
    unfold markDown at h ⊢
    rcases Nat.lt_or_ge i k with hlt | hge
    · exact markDown_parts ok k _ i n (by omega) hlt hn h p hp
    · have e : i = k := by omega
      subst e
      rw [markDown_above ok i _ i (by omega) (by omega)] at h
      have hmi : m i = true := by
        cases q : m i with
        | true => rfl
        | false =>
          rw [q, if_neg Bool.false_ne_true, q] at h
          exact h
      rw [if_pos hmi]
      refine markDown_keep ns i _ p ?_
      rw [hn]
      exact markP_new hp
def marked (ns : List Nd) (rows : List Nat) : Nat → Bool := markDown ns ns.length (markP (fun _ => false) rows)
def belowF (ns : List Nd) (rows : List Nat) : List Nat := (List.range ns.length).filter (marked ns rows)
theorem below_mem {ns : List Nd} {rows : List Nat} {i : Nat} : i ∈ belowF ns rows ↔ i < ns.length ∧ marked ns rows i = true := by
  unfold belowF
  rw [List.mem_filter, List.mem_range]
theorem below_parts {boxed : Bool} {ns : List Nd} {rows : List Nat} (ok : okSheet boxed ns) {i : Nat} {n : Nd} (h : i ∈ belowF ns rows) (hn : ns[i]? = some n) : ∀ p ∈ n.parts, p ∈ belowF ns rows ∧ p < i := fun p hp => by
  obtain ⟨h1, h2⟩ := below_mem.mp h
  have hl := parts_lt (ok.2 i n hn) p hp
  exact ⟨below_mem.mpr ⟨by omega, markDown_parts ok ns.length _ i n (Nat.le_refl _) h1 hn h2 p hp⟩, hl⟩
/-! ### the readings -/
inductive W3
  | neg | box | dou
  deriving DecidableEq
def W3.str : W3 → Str
  | .neg => "negative"
  | .box => "boxed"
  | .dou => "doubled"
/-- the node with its parts' new rows -/
def Nd.moved (new : Nat → Nat) : Nd → Nd
  | .bin o j k => .bin o (new j) (new k)
  | .box j => .box (new j)
  | n => n
def stepF (w : W3) (ns : List Nd) (at_ : Nat) (n : Nd) (new : Nat → Nat) : Nat × List Nd :=
  match w, n with
  | _, .no => (at_, ns)
  | .dou, .letter _ => (at_, ns)
  | .neg, .letter _ => denyF (denyF ns at_).2 (denyF ns at_).1
  | .box, .letter _ => rowF ns (.box at_)
  | .neg, .bin .or j k =>
    let a := denyF ns (new j)
    let b := denyF a.2 (new k)
    let c := rowF b.2 (.bin .and a.1 b.1)
    denyF c.2 c.1
  | .box, .bin .imp j k =>
    let a := rowF ns (.bin .imp (new j) (new k))
    rowF a.2 (.box a.1)
  | .dou, .box j =>
    let a := rowF ns (.box (new j))
    rowF a.2 (.bin .and (new j) a.1)
  | _, n => rowF ns (n.moved new)
/-- the rows l, one by one: the grown sheet and what each has become -/
def readF (w : W3) (old : List Nd) : List Nat → List Nd → (Nat → Nat) → List Nd × (Nat → Nat)
  | [], ns, new => (ns, new)
  | i :: l, ns, new =>
    let a := stepF w ns i (old[i]?.getD .no) new
    readF w old l a.2 (fun x => if x = i then a.1 else new x)
end LL

set_option Elab.async false
set_option linter.all false
set_option maxRecDepth 100000
set_option maxHeartbeats 400000
/-! LDx: dicts whose keys are tuples, tracked ones or ones of the written part -/
namespace LL
open PySem PySem.Spec PyProof.Rows L2
variable [KW]
abbrev Ent := List Key × Addr × V
abbrev entKV (p : Ent) : List Key × V := (p.1, p.2.2)
def EntR (p : Ent) (q : List Key × Addr × Value) : Prop := p.1 = q.1 ∧ p.2.1 = q.2.1 ∧ RelV p.2.2 q.2.2
def dxOk (T : Addr) (kas : List Ent) (h : Heap) : Prop := (T == sysModules) = false ∧ kas.length ≤ sizeLine ∧ ∃ xs : List (List Key × Addr × Value), Paired EntR kas xs ∧
  ∃ o es ep, h.get? T = some o ∧ o.ExactDict ∧ o.data = .dict es ep ∧ es.toList = xs.map (fun x => ⟨KW.hs x.1, .ref x.2.1, x.2.2⟩) ∧ (xs.map (·.1)).Nodup
def dxo (T : Addr) (kas : List Ent) : HO := .ext (dxOk T kas)
def putX (kas : List Ent) (k : List Key) (b : Addr) (v : V) : List Ent := if (kas.any fun p => decide (p.1 = k)) = true then kas.map (fun p => if p.1 = k then (p.1, p.2.1, v) else p) else kas ++ [(k, b, v)]
theorem dx_val {kas : List Ent} {xs : List (List Key × Addr × Value)} (r : Paired EntR kas xs) (k : List Key) : RelO (valV (kas.map entKV) k) ((atKey xs k).map (·.2)) := by
  induction r with
  | nil => exact True.intro
  | @cons p q ps qs h t ih =>
    obtain ⟨h1, _, h2⟩ := h
    rw [List.map_cons]
    by_cases e : p.1 = k
    · have e' : q.1 = k := h1.symm.trans e
      have b : atKey (q :: qs) k = some q.2 := by simp [atKey, List.find?_cons, e']
      rw [valV_pos (p := entKV p) e, b]; exact h2
    · have e' : ¬ q.1 = k := fun z => e (h1.trans z)
      have b : atKey (q :: qs) k = atKey qs k := by simp [atKey, List.find?_cons, e']
      rw [valV_neg (p := entKV p) e, b]; exact ih
theorem dx_any {kas : List Ent} {xs : List (List Key × Addr × Value)} (r : Paired EntR kas xs) (k : List Key) : (kas.any fun p => decide (p.1 = k)) = (atKey xs k).isSome := by
  induction r with
  | nil => rfl
  | @cons p q ps qs h t ih =>
    rw [List.any_cons, ih]
    by_cases e : p.1 = k
    · have e' : q.1 = k := h.1.symm.trans e
      have b : atKey (q :: qs) k = some q.2 := by simp [atKey, List.find?_cons, e']
      rw [b, decide_eq_true e]; rfl
    · have e' : ¬ q.1 = k := fun z => e (h.1.trans z)
      have b : atKey (q :: qs) k = atKey qs k := by simp [atKey, List.find?_cons, e']
      rw [b, decide_eq_false e, Bool.false_or]
theorem dx_put {kas : List Ent} {xs : List (List Key × Addr × Value)} (r : Paired EntR kas xs) (k : List Key) (b : Addr) {v : V} {u : Value} (rv : RelV v u) : Paired EntR (putX kas k b v) (storedH xs k b u) := by
  have repl : ∀ {l : List Ent} {m : List (List Key × Addr × Value)}, Paired EntR l m → Paired EntR (l.map fun p => if p.1 = k then (p.1, p.2.1, v) else p) (m.map (putAt k u)) := by
    intro l m q
    induction q with
    | nil => exact .nil
    | @cons p q ps qs h t ih =>
      rw [List.map_cons, List.map_cons]
      refine .cons ?_ ih
      obtain ⟨h1, h2, h3⟩ := h
      unfold putAt
      by_cases e : p.1 = k
      · rw [if_pos e, if_pos (h1.symm.trans e)]; exact ⟨h1, h2, rv⟩
      · rw [if_neg e, if_neg (fun z => e (h1.trans z))]; exact ⟨h1, h2, h3⟩
  unfold putX storedH
  rw [dx_any r k]
  by_cases q : (atKey xs k).isSome = true
  · rw [if_pos q, if_pos q]; exact repl r
  · rw [if_neg q, if_neg q]; exact Paired.snoc r ⟨rfl, rfl, rv⟩
/-- the keys' tuples -/
def KeysAt (K : PySem.W.Frag) (H : Hp) (kas : List Ent) : Prop := ∀ p ∈ kas, SqT K H p.2.1 (p.1.map kV)
/-- what a dict holds at a key -/
def DGX (K : PySem.W.Frag) (H : Hp) (a : Addr) (y : V) (r : Option V) : Prop :=
  ∃ kas k b, H a = some (dxo a kas) ∧ KeysAt K H kas ∧ y = .ref b ∧ SqT K H b (k.map kV) ∧ r = valV (kas.map entKV) k
def DPX (K : PySem.W.Frag) (H : Hp) (a : Addr) (y v : V) (H' : Hp) : Prop :=
  ∃ kas k b, H a = some (dxo a kas) ∧ KeysAt K H kas ∧ y = .ref b ∧ SqT K H b (k.map kV) ∧ kas.length < sizeLine ∧ H' = upd H a (dxo a (putX kas k b v))
section
variable {X : Cx} {w : World} {pins : List (Addr × Obj)} {σ : L2.St} {H : Hp} {s : Shared} {a b : Addr} {y v : V} {u r : Value} {o : Option V} {A : Around} {E : Value → Shared → Prop} {ks : List Key} {kas : List Ent}
theorem key_sq (I : Inv X pins σ H s) (h : SqT X.K H b (ks.map kV)) : (tupleKind (mixKind X.prog X.w)).is s.heap ks b := by
  obtain ⟨its, r, ⟨o, h1, h2, n, h3⟩, _⟩ := I.tuple h
  exact ⟨o, its.toArray, n, h1, h2, h3, by simpa using items_are r⟩
theorem dx_of (W : KWOk X.K X.w) (I : Inv X pins σ H s) (e : H a = some (dxo a kas)) (hk : KeysAt X.K H kas) : (a == sysModules) = false ∧ kas.length ≤ sizeLine ∧
    ∃ xs, Paired EntR kas xs ∧ s.heap.DictOfH (tupleKind (mixKind X.prog X.w)) a xs := by
  obtain ⟨⟨y, z, xs, r, o, es, ep, h1, h2, h3, h4, h5⟩, _, _⟩ := (show ObjOk X.prog X.w H s.heap a (dxo a kas) from I.hok a _ e)
  refine ⟨y, z, xs, r, o, es, ep, h1, h2, h3, ?_, fun x hx => ?_, h5⟩
  · rw [h4]
    refine List.map_congr_left fun x _ => ?_
    unfold entryOfKey
    rw [W.hs X.prog x.1]
  · have all : ∀ {l : List Ent} {m : List (List Key × Addr × Value)}, Paired EntR l m → (∀ p ∈ l, SqT X.K H p.2.1 (p.1.map kV)) → ∀ x ∈ m, (tupleKind (mixKind X.prog X.w)).is s.heap x.1 x.2.1 := by
      intro l m q
      induction q with
      | nil => intro _ x hx; exact nomatch hx
      | @cons p q ps qs hq t ih =>
        intro hp x hx
        rcases List.mem_cons.mp hx with e | hx
        · subst e
          rw [← hq.1, ← hq.2.1]
          exact key_sq I (hp p List.mem_cons_self)
        · exact ih (fun p hp' => hp p (List.mem_cons_of_mem _ hp')) x hx
    exact all r hk x hx
theorem dx_new {h : Heap} {kas : List Ent} {xs : List (List Key × Addr × Value)} {P : Program} {w : World} {H : Hp} (W : ∀ (ks : List Key), KW.hs ks = (tupleKind (mixKind P w)).hash ks) (y : (a == sysModules) = false) (z : kas.length ≤ sizeLine) (r : Paired EntR kas xs) (d : h.DictOfH (tupleKind (mixKind P w)) a xs) :
    ObjOk P w H h a (dxo a kas) := by
  obtain ⟨o, es, ep, h1, h2, h3, h4, _, h5⟩ := d
  refine ⟨⟨y, z, xs, r, o, es, ep, h1, h2, h3, ?_, h5⟩, ⟨o, h1⟩, fun k1 k2 p keep => ?_⟩
  · rw [h4]
    refine List.map_congr_left fun x _ => ?_
    unfold entryOfKey
    rw [W x.1]
  · obtain ⟨y, z, xs, r, o, es, ep, h1, h2⟩ := p
    exact ⟨y, z, xs, r, o, es, ep, keep _ h1, h2⟩
theorem dx_getItem {Q : Value → Shared → Prop} (W : KWOk X.K X.w) (hu : A.units + 1 < cLine) (I : Inv X pins σ H s) (g : DGX X.K H a y (some v)) (ry : RelV y u) (h : ∀ w' s', Inv X pins σ H s' → RelV v w' → Q w' s') :
    wpAny (model X.prog X.w) A (getItem (.ref a) u) Q E s := by
  obtain ⟨kas, k, b, e, hk, ey, eb, l⟩ := g
  subst ey
  cases (show u = Value.ref b from ry)
  obtain ⟨hd, z, xs, rel, dd⟩ := dx_of W I e hk
  obtain ⟨w', hw, rw'⟩ := RelO.some_of (v := v) (o := (atKey xs k).map (·.2)) (by rw [l]; exact dx_val rel k)
  obtain ⟨p, hp, hp2⟩ := Option.map_eq_some_iff.mp hw
  refine wpAny_getItem_heap (tupleKind_room_in1 hu) (key_sq I eb) dd hp ?_
  rw [hp2]
  exact h w' _ (I.tok _) rw'
theorem dx_in {Q : Value → Shared → Prop} (W : KWOk X.K X.w) (hu : A.units + 1 < cLine) (I : Inv X pins σ H s) (g : DGX X.K H a y o) (ry : RelV y u) (h : ∀ s', Inv X pins σ H s' → Q (.bool o.isSome) s') :
    wpAny (model X.prog X.w) A (compareOp .In u (.ref a)) Q E s := by
  obtain ⟨kas, k, b, e, hk, ey, eb, l⟩ := g
  subst ey
  cases (show u = Value.ref b from ry)
  obtain ⟨hd, z, xs, rel, dd⟩ := dx_of W I e hk
  refine wpAny_in_heap (tupleKind_room_in1 hu) (key_sq I eb) hd dd ?_
  have q := (dx_val rel k).isSome_eq
  rw [Option.isSome_map] at q
  rw [← q, ← l]
  exact h _ (I.tok _)
theorem dx_notIn {Q : Value → Shared → Prop} (W : KWOk X.K X.w) (hu : A.units + 1 < cLine) (I : Inv X pins σ H s) (g : DGX X.K H a y o) (ry : RelV y u) (h : ∀ s', Inv X pins σ H s' → Q (.bool (!o.isSome)) s') :
    wpAny (model X.prog X.w) A (compareOp .NotIn u (.ref a)) Q E s := by
  obtain ⟨kas, k, b, e, hk, ey, eb, l⟩ := g
  subst ey
  cases (show u = Value.ref b from ry)
  obtain ⟨hd, z, xs, rel, dd⟩ := dx_of W I e hk
  refine wpAny_notIn_heap (tupleKind_room_in1 hu) (key_sq I eb) hd dd ?_
  have q := (dx_val rel k).isSome_eq
  rw [Option.isSome_map] at q
  rw [← q, ← l]
  exact h _ (I.tok _)
theorem putX_len (kas : List Ent) (k : List Key) (b : Addr) (v : V) : (putX kas k b v).length ≤ kas.length + 1 := by
  unfold putX
  split <;> simp
theorem dx_setItem {H' : Hp} {Q : Unit → Shared → Prop} (W : KWOk X.K X.w) (hu : A.units + 1 < cLine) (I : Inv X pins σ H s) (g : DPX X.K H a y v H') (ry : RelV y u) (rv : RelV v r) (h : ∀ s', Inv X pins σ H' s' → Q () s') :
    wpAny (model X.prog X.w) A (setItem (.ref a) u r) Q E s := by
  obtain ⟨kas, k, b, e, hk, ey, eb, l, eH⟩ := g
  subst ey eH
  cases (show u = Value.ref b from ry)
  obtain ⟨hd, z, xs, rel, dd⟩ := dx_of W I e hk
  have hz : xs.length ≤ sizeLine := by rw [← Paired.length rel]; exact z
  have hl : (putX kas k b v).length ≤ sizeLine := by have := putX_len kas k b v; omega
  refine wpAny_setItem_heap (hsz := hz) (tupleKind_room_in1 hu) (key_sq I eb) dd fun h' dd' hs => h _ ?_
  have he : ∃ q, h'.get? a = some q := let ⟨q, _, _, hq, _⟩ := dd'; ⟨q, hq⟩
  exact d_write I (by rw [e]; exact True.intro) hs he (dx_new (fun ks => W.hs X.prog ks) hd hl (dx_put rel k b rv) dd')
end
def tDGetX (K : PySem.W.Frag) (td ty : TE) : TE := fun σ H Q => td σ H fun x H1 => ty σ H1 fun y H2 => ∃ a v, x = .ref a ∧ DGX K H2 a y (some v) ∧ Q v H2
def tDInX (K : PySem.W.Frag) (ty td : TE) : TE := fun σ H Q => ty σ H fun y H1 => td σ H1 fun x H2 => ∃ a o, x = .ref a ∧ DGX K H2 a y o ∧ Q (.bl o.isSome) H2
def tDNotInX (K : PySem.W.Frag) (ty td : TE) : TE := fun σ H Q => ty σ H fun y H1 => td σ H1 fun x H2 => ∃ a o, x = .ref a ∧ DGX K H2 a y o ∧ Q (.bl (!o.isSome)) H2
def sDPutX (K : PySem.W.Frag) (td ty tv : TE) : TS := fun D σ H => tv σ H fun v H1 => td σ H1 fun x H2 => ty σ H2 fun y H3 => ∃ a H4, x = .ref a ∧ DPX K H3 a y v H4 ∧ D.nx σ H4
def tDNewX : TE := fun _ H Q => ∀ p, H p = none → Q (.ref p) (upd H p (dxo p []))
section
variable {X : Cx} {o i e value : Expr} {pos pos' tpos : Pos} {td ty tv : TE}
theorem dx_typeIs {pins : List (Addr × Obj)} {σ : L2.St} {H : Hp} {s : Shared} {a : Addr} {y : V} {ov : Option V} (I : Inv X pins σ H s) (g : DGX X.K H a y ov) : s.TypeIs (.ref a) "dict" := by
  obtain ⟨kas, k, b, e, _⟩ := g
  obtain ⟨⟨_, _, xs, _, ob, es, ep, h1, h2, _⟩, _⟩ := (show ObjOk X.prog X.w H s.heap a (dxo a kas) from I.hok a _ e)
  exact ⟨ob, h1, h2.1⟩
theorem pe_dgetX (W : KWOk X.K X.w) (hu : X.A.units + 1 < cLine) (ho : PE X o td) (hi : PE X i ty) (hs : NoSl i) : PE X (.Subscript o i pos) (tDGetX X.K td ty) := by
  refine ⟨fun pins s σ H Q I h => ?_⟩
  refine subD_of PySem.F.slot_dict_getitem.lookup hs (thn (ho.run pins s σ H _ I h) fun u s1 ⟨x, H1, I1, rx, q1⟩ => thn (hi.run pins s1 σ H1 _ I1 q1) fun iv s2 ⟨y, H2, I2, ry, a, v, ex, g, q2⟩ => ?_)
  subst ex
  obtain rfl : u = Value.ref a := rx
  exact ⟨dx_typeIs I2 g, dx_getItem W hu I2 g ry fun w' s3 I3 rw' => ⟨v, H2, I3, rw', q2⟩⟩
theorem pc_dinX (W : KWOk X.K X.w) (hu : X.A.units + 1 < cLine) (hi : PE X i ty) (ho : PE X o td) : PC X .In i o (tDInX X.K ty td) := by
  refine ⟨fun pins s σ H Q I h => ?_⟩
  refine thn (hi.run pins s σ H _ I h) fun iv s1 ⟨y, H1, I1, ry, q1⟩ => thn (ho.run pins s1 σ H1 _ I1 q1) fun u s2 ⟨x, H2, I2, rx, a, ov, ex, g, q2⟩ => ?_
  subst ex
  obtain rfl : u = Value.ref a := rx
  exact dx_in W hu I2 g ry fun s3 I3 => ⟨.bl ov.isSome, H2, I3, rfl, q2⟩
theorem pc_dnotinX (W : KWOk X.K X.w) (hu : X.A.units + 1 < cLine) (hi : PE X i ty) (ho : PE X o td) : PC X .NotIn i o (tDNotInX X.K ty td) := by
  refine ⟨fun pins s σ H Q I h => ?_⟩
  refine thn (hi.run pins s σ H _ I h) fun iv s1 ⟨y, H1, I1, ry, q1⟩ => thn (ho.run pins s1 σ H1 _ I1 q1) fun u s2 ⟨x, H2, I2, rx, a, ov, ex, g, q2⟩ => ?_
  subst ex
  obtain rfl : u = Value.ref a := rx
  exact dx_notIn W hu I2 g ry fun s3 I3 => ⟨.bl (!ov.isSome), H2, I3, rfl, q2⟩
theorem ps_dputX (W : KWOk X.K X.w) (hu : X.A.units + 1 < cLine) (ho : PE X o td) (hi : PE X i ty) (hv : PE X value tv) (hs : swapsWith value (some (.Subscript o i pos')) pos.line X.env = pure false) :
    PS X (.Assign [.Subscript o i pos'] value pos) (sDPutX X.K td ty tv) := by
  refine ⟨fun pins s σ H D I h => ?_⟩
  refine wpAny_Assign_Subscript (thn (hv.run pins s σ H _ I h) fun r s1 ⟨v, H1, I1, rv, q1⟩ => thn (ho.run pins s1 σ H1 _ I1 q1) fun u s2 ⟨x, H2, I2, rx, q2⟩ => thn (hi.run pins s2 σ H2 _ I2 q2) fun iv s3 ⟨y, H3, I3, ry, a, H4, ex, g, q3⟩ => ?_) hs
  subst ex
  obtain rfl : u = Value.ref a := rx
  exact dx_setItem W hu I3 g ry rv fun s4 I4 => ⟨σ, H4, I4, q3⟩
theorem pe_dnewX (W : KWOk X.K X.w) : PE X (.Dict [] [] pos) tDNewX := ⟨fun pins s σ H Q I h =>
  wpAny_Dict_empty ⟨.ref s.heap.objs.size, _, I.laid (a := s.heap.objs.size) (o := dxo s.heap.objs.size []) (t' := s.toks) (fun _ _ q => Heap.get?_push_of_some _ q) (Nat.le_refl _)
    (dx_new (xs := []) (fun ks => W.hs X.prog ks) (beq_eq_false_iff_ne.mpr (Ne.symm (Nat.ne_of_lt I.big))) (Nat.zero_le _) .nil ⟨_, #[], 0, Heap.get?_push_size _ rfl, ⟨rfl, rfl, rfl⟩, rfl, rfl, (fun x hx => nomatch hx), List.nodup_nil⟩), rfl, h _ (I.hok.fresh (Nat.le_refl _))⟩⟩
end
end LL

set_option Elab.async false
set_option linter.all false
set_option maxRecDepth 100000
set_option maxHeartbeats 400000
/-! LBkN: a list of nodes and the table of their rows, in the heap -/
namespace LL
open PySem PySem.Spec PyProof.Rows L2
variable [KW]
def tabG : Nat → List Nd → List (List Key × V)
  | _, [] => []
  | k, n :: ns => (n.keys, .int (k : Nat)) :: tabG (k + 1) ns
theorem tab_app : ∀ (k : Nat) (ns ms : List Nd), tabG k (ns ++ ms) = tabG k ns ++ tabG (k + ns.length) ms
  | k, [], ms => by rw [List.nil_append, List.length_nil, Nat.add_zero]; rfl
  | k, n :: ns, ms => by
    rw [List.cons_append, tabG, tab_app (k + 1) ns ms, tabG, List.cons_append, List.length_cons]
    rw [show k + 1 + ns.length = k + (ns.length + 1) from by omega]
theorem tab_len : ∀ (k : Nat) (ns : List Nd), (tabG k ns).length = ns.length
  | _, [] => rfl
  | k, n :: ns => by rw [tabG, List.length_cons, tab_len (k + 1) ns, List.length_cons]
theorem tab_val : ∀ (k : Nat) (ns : List Nd) (n : Nd), valV (tabG k ns) n.keys = if n ∈ ns then some (.int ((k + ns.idxOf n : Nat))) else none
  | k, [], n => by simp [tabG, valV]
  | k, m :: ns, n => by
    unfold tabG
    by_cases e : m = n
    · subst e
      unfold valV
      rw [List.find?_cons]
      simp [List.idxOf_cons]
    · have hk : ¬ m.keys = n.keys := fun z => e (keys_inj z)
      have e2 : (m == n) = false := by simpa using e
      have ih := tab_val (k + 1) ns n
      unfold valV at ih ⊢
      rw [List.find?_cons, decide_eq_false hk]
      show Option.map _ (List.find? _ (tabG (k + 1) ns)) = _
      rw [ih]
      have hm : (n ∈ m :: ns) ↔ n ∈ ns := by
        rw [List.mem_cons]
        exact ⟨fun z => z.resolve_left (fun y => e y.symm), .inr⟩
      by_cases h : n ∈ ns
      · rw [if_pos h, if_pos (hm.mpr h), List.idxOf_cons, e2]
        show some (V.int ((k + 1 + ns.idxOf n : Nat))) = some (V.int ((k + (ns.idxOf n + 1) : Nat)))
        rw [show k + 1 + ns.idxOf n = k + (ns.idxOf n + 1) from by omega]
      · rw [if_neg h, if_neg (fun z => h (hm.mp z))]
/-- a dict at T that holds kvs, its keys' tuples stand -/
structure Tab (M : List Addr) (H : Hp) (T : Addr) (kvs : List (List Key × V)) : Prop where
  ex : ∃ kas : List Ent, H T = some (dxo T kas) ∧ kas.map entKV = kvs ∧ ∀ p ∈ kas, Tp M H p.2.1 (p.1.map kV)
section
variable {M N : List Addr} {H H' : Hp} {T p b : Addr} {kvs : List (List Key × V)} {K : PySem.W.Frag} {w : World} {k : List Key} {v : V}
theorem Tab.adv (x : Tab M H T kvs) (a : Adv N H H') (hT : T ∉ N) (hn : ∀ b ∈ N, b ∈ M) : Tab M H' T kvs := by
  obtain ⟨kas, h1, h2, h3⟩ := x.ex
  exact ⟨⟨kas, a _ _ hT h1, h2, fun q hq => (h3 q hq).adv (a.more hn)⟩⟩
theorem Tab.same (x : Tab M H T kvs) (a : Adv [] H H') : Tab M H' T kvs := x.adv a (by simp) (by simp)
theorem Tab.fresh (x : Tab M H T kvs) (h : H p = none) : Tab (p :: M) H T kvs := by
  obtain ⟨kas, h1, h2, h3⟩ := x.ex
  exact ⟨⟨kas, h1, h2, fun q hq => (h3 q hq).fresh h⟩⟩
theorem Tab.less (x : Tab M H T kvs) (h : ∀ b ∈ N, b ∈ M) : Tab N H T kvs := by
  obtain ⟨kas, h1, h2, h3⟩ := x.ex
  exact ⟨⟨kas, h1, h2, fun q hq => (h3 q hq).less h⟩⟩
theorem Tab.new (h : H T = some (dxo T [])) : Tab M H T [] := ⟨⟨[], h, rfl, fun q hq => nomatch hq⟩⟩
theorem Tab.here (x : Tab M H T kvs) : H T ≠ none := by
  obtain ⟨kas, h1, _⟩ := x.ex
  rw [h1]; simp
theorem Tab.get (W : KWOk K w) (x : Tab M H T kvs) (hb : Tp N H b (k.map kV)) : DGX K H T (.ref b) (valV kvs k) := by
  obtain ⟨kas, h1, h2, h3⟩ := x.ex
  exact ⟨kas, k, b, h1, fun q hq => (h3 q hq).sq W, rfl, hb.sq W, by rw [h2]⟩
theorem putX_map (kas : List Ent) (k : List Key) (b : Addr) (v : V) : (putX kas k b v).map entKV = putK (kas.map entKV) k v := by
  have e : ((kas.map entKV).any fun kv => decide (kv.1 = k)) = kas.any fun p => decide (p.1 = k) := by rw [List.any_map]; rfl
  unfold putX putK
  rw [e]
  split
  · rw [List.map_map, List.map_map]
    refine List.map_congr_left fun q _ => ?_
    show entKV (if q.1 = k then _ else _) = (if (entKV q).1 = k then _ else _)
    by_cases z : q.1 = k
    · rw [if_pos z, if_pos z]
    · rw [if_neg z, if_neg z]
  · rw [List.map_append]; rfl
theorem Tab.put (W : KWOk K w) (x : Tab M H T kvs) (hb : Tp M H b (k.map kV)) (hl : kvs.length < sizeLine) (v : V) :
    ∃ kas' : List Ent, DPX K H T (.ref b) v (upd H T (dxo T kas')) ∧ kas'.map entKV = putK kvs k v ∧ ∀ q ∈ kas', Tp M H q.2.1 (q.1.map kV) := by
  obtain ⟨kas, h1, h2, h3⟩ := x.ex
  refine ⟨putX kas k b v, ⟨kas, k, b, h1, fun q hq => (h3 q hq).sq W, rfl, hb.sq W, by rw [← h2, List.length_map] at hl; exact hl, rfl⟩, by rw [putX_map, h2], fun q hq => ?_⟩
  unfold putX at hq
  split at hq
  · obtain ⟨p', hp', e⟩ := List.mem_map.mp hq
    by_cases z : p'.1 = k
    · rw [if_pos z] at e
      subst e
      exact h3 p' hp'
    · rw [if_neg z] at e
      subst e
      exact h3 p' hp'
  · rcases List.mem_append.mp hq with hq | hq
    · exact h3 q hq
    · rw [List.mem_singleton.mp hq]
      exact hb
/-- the table behind a store: told by its heap -/
theorem Tab.putH (W : KWOk K w) (x : Tab M H T kvs) (mT : T ∈ M) (hb : Tp M H b (k.map kV)) (hl : kvs.length < sizeLine) (v : V) :
    ∃ o : HO, DPX K H T (.ref b) v (upd H T o) ∧ Tab M (upd H T o) T (putK kvs k v) := by
  obtain ⟨kas', g, e, h⟩ := x.put W hb hl v
  exact ⟨_, g, ⟨⟨kas', upd_same, e, fun q hq => (h q hq).adv (Adv.set mT)⟩⟩⟩
end
/-- the list b0 of the nodes ns, the table b1 of their rows -/
structure BkN (M : List Addr) (H : Hp) (b0 b1 : Addr) (ns : List Nd) : Prop where
  rows : ∃ rs, H b0 = some (.lst rs) ∧ IsDs M H (ns.map Nd.data) rs
  tab : Tab M H b1 (tabG 0 ns)
  m0 : b0 ∈ M
  m1 : b1 ∈ M
  ne : b0 ≠ b1
  al : ∀ b ∈ M, H b ≠ none
theorem BkN.adv {M N : List Addr} {H H' : Hp} {b0 b1 : Addr} {ns : List Nd} (x : BkN M H b0 b1 ns) (a : Adv N H H') (h0 : b0 ∉ N) (h1 : b1 ∉ N) (hn : ∀ b ∈ N, b ∈ M) (hal : ∀ b ∈ N, H' b ≠ none) : BkN M H' b0 b1 ns := by
  obtain ⟨⟨rs, e, r⟩, t, m0, m1, ne, al⟩ := x
  exact ⟨⟨rs, a _ _ h0 e, r.adv (a.more hn)⟩, t.adv a h1 hn, m0, m1, ne, alloc_adv al a hal⟩
theorem BkN.same {M : List Addr} {H H' : Hp} {b0 b1 : Addr} {ns : List Nd} (x : BkN M H b0 b1 ns) (a : Adv [] H H') : BkN M H' b0 b1 ns := x.adv a (by simp) (by simp) (by simp) (by simp)
theorem BkN.fresh {M : List Addr} {H : Hp} {b0 b1 p : Addr} {ns : List Nd} (x : BkN M H b0 b1 ns) (h : H p = none) {o : HO} : BkN (p :: M) (upd H p o) b0 b1 ns := by
  have y := x.same (Adv.new (o := o) h)
  obtain ⟨⟨rs, e, r⟩, t, m0, m1, ne, al⟩ := x
  obtain ⟨_, _, _, _, _, al'⟩ := y
  have a : Adv [] H (upd H p o) := Adv.new h
  exact ⟨⟨rs, a.same _ _ e, (r.fresh h).adv (a.more (by simp))⟩, (t.fresh h).same a, by simp [m0], by simp [m1], ne, fun b hb => by
    rcases List.mem_cons.mp hb with z | hb
    · rw [z, upd_same]; simp
    · exact al' b hb⟩
theorem BkN.less {M N : List Addr} {H : Hp} {b0 b1 : Addr} {ns : List Nd} (x : BkN M H b0 b1 ns) (h : ∀ b ∈ N, b ∈ M) (m0 : b0 ∈ N) (m1 : b1 ∈ N) : BkN N H b0 b1 ns := by
  obtain ⟨⟨rs, e, r⟩, t, _, _, ne, al⟩ := x
  exact ⟨⟨rs, e, r.less h⟩, t.less h, m0, m1, ne, fun b hb => al b (h b hb)⟩
theorem ks_of {M : List Addr} {H : Hp} : ∀ (ks : List Key) (ws : List V), IsDs M H (ks.map keyDt) ws → ws = ks.map kV := by
  intro ks
  induction ks with
  | nil => intro ws y; unfold IsDs at y; exact y
  | cons c ks ih =>
    intro ws y
    rw [List.map_cons] at y
    unfold IsDs at y
    obtain ⟨u, r, rfl, h1, h2⟩ := y
    rw [ih r h2]
    cases c with
    | inl i => rw [h1.intE]; rfl
    | inr s => rw [h1.strE]; rfl
theorem nd_is {M : List Addr} {H : Hp} {n : Nd} {v : V} (x : Is M H n.data v) : ∃ a, v = .ref a ∧ Tp M H a (n.keys.map kV) := by
  obtain ⟨a, vs, rfl, ha, hs⟩ := x.tupE
  refine ⟨a, rfl, ?_⟩
  rw [← ks_of _ _ hs]
  exact ha
theorem nd_tp {M : List Addr} {H : Hp} {n : Nd} {a : Addr} (h : Tp M H a (n.keys.map kV)) : Is M H n.data (.ref a) := Is.tp h (ks_data _)
theorem tab_mem (k : Nat) (ns : List Nd) (n : Nd) : memK n.keys ((tabG k ns).map (·.1)) = decide (n ∈ ns) := by
  rw [← val_mem, tab_val]
  by_cases h : n ∈ ns
  · rw [if_pos h, decide_eq_true h]; rfl
  · rw [if_neg h, decide_eq_false h]; rfl
/-- a node is added at the end -/
theorem BkN.push {K : PySem.W.Frag} {w : World} (W : KWOk K w) {M : List Addr} {H : Hp} {b0 b1 a : Addr} {ns : List Nd} {n : Nd} {rs : List V} (x : BkN M H b0 b1 ns) (h0 : H b0 = some (.lst rs)) (ha : Tp M H a (n.keys.map kV)) (hm : n ∉ ns) (hl : ns.length < sizeLine) :
    ∃ o : HO, DPX K H b1 (.ref a) (.int (rs.length : Nat)) (upd H b1 o) ∧ BkN M (upd (upd H b1 o) b0 (.lst (rs ++ [.ref a]))) b0 b1 (ns ++ [n]) := by
  obtain ⟨⟨rs', e, r⟩, t, m0, m1, ne, al⟩ := x
  rw [h0] at e
  cases e
  have hrl := r.len
  rw [List.length_map] at hrl
  obtain ⟨o, g, t2⟩ := t.putH W m1 ha (by rw [tab_len]; exact hl) (.int (rs.length : Nat))
  refine ⟨o, g, ?_⟩
  have a1 : Adv [b0, b1] H (upd H b1 o) := Adv.set (by simp)
  have a2 : Adv [b0] (upd H b1 o) (upd (upd H b1 o) b0 (.lst (rs ++ [.ref a]))) := Adv.set (by simp)
  have aa : Adv [b0, b1] H (upd (upd H b1 o) b0 (.lst (rs ++ [.ref a]))) := a1.trans (a2.more (by simp))
  have mM : ∀ b ∈ [b0, b1], b ∈ M := by simp [m0, m1]
  refine ⟨⟨rs ++ [.ref a], upd_same, ?_⟩, ?_, m0, m1, ne, alloc_adv al aa fun b hb => ?_⟩
  · rw [List.map_append]
    exact (r.adv (aa.more mM)).app (IsDs.one (nd_tp (ha.adv (aa.more mM))))
  · rw [put_new _ _ _ (by rw [tab_mem]; exact decide_eq_false hm)] at t2
    have := t2.adv a2 (by simpa using ne.symm) (by simp [m0])
    rw [tab_app, Nat.zero_add, ← hrl]
    exact this
  · rcases List.mem_cons.mp hb with e | hb
    · rw [e, upd_same]; simp
    · rw [List.mem_singleton.mp hb, upd_ne ne.symm, upd_same]; simp
end LL

set_option Elab.async false
set_option linter.all false
set_option maxRecDepth 100000
set_option maxHeartbeats 400000
/-! LFilt: a filtered comprehension over a range; lists of marks -/
namespace LL
open PySem PySem.Spec PyProof.Rows L2
variable [KW]
def mbV (m : Nat → Bool) (n : Nat) : List V := (List.range n).map fun i => V.bl (m i)
theorem mb_len (m : Nat → Bool) (n : Nat) : (mbV m n).length = n := by unfold mbV; rw [List.length_map, List.length_range]
theorem mb_at {m : Nat → Bool} {n i : Nat} (h : i < n) : (mbV m n)[i]? = some (.bl (m i)) := by
  unfold mbV
  rw [List.getElem?_map, List.getElem?_range h]
  rfl
theorem mb_zero (n : Nat) : (List.replicate n [V.bl false]).flatten = mbV (fun _ => false) n := by
  unfold mbV
  induction n with
  | zero => rfl
  | succ n ih =>
    rw [List.replicate_succ', List.flatten_append, ih, List.range_succ, List.map_append]
    rfl
theorem mb_set {m : Nat → Bool} {n i : Nat} : (mbV m n).set i (.bl true) = mbV (markP m [i]) n := by
  apply List.ext_getElem?
  intro j
  rw [List.getElem?_set]
  by_cases hj : j < n
  · rw [mb_at hj, mb_at hj, mb_len]
    by_cases e : i = j
    · subst e
      rw [if_pos rfl, if_pos hj, markP_new (by simp)]
    · rw [if_neg e]
      have : markP m [i] j = m j := by
        unfold markP
        rw [show [i].contains j = false from by simp; exact fun z => e z.symm, Bool.or_false]
      rw [this]
  · have l1 : (mbV m n)[j]? = none := List.getElem?_eq_none (by rw [mb_len]; omega)
    have l2 : (mbV (markP m [i]) n)[j]? = none := List.getElem?_eq_none (by rw [mb_len]; omega)
    rw [l1, l2, mb_len]
    split
    · split
      · omega
      · rfl
    · rfl
theorem markP_snoc (m : Nat → Bool) (ps : List Nat) (p : Nat) : markP (markP m ps) [p] = markP m (ps ++ [p]) := by
  funext x
  unfold markP
  rw [List.contains_append, Bool.or_assoc]
theorem markP_nil (m : Nat → Bool) : markP m [] = m := by
  funext x
  unfold markP
  simp
section
variable {g : TG} {te : TE} {vs : List Nat} {σ : L2.St} {H1 : Hp} {D : Addr} {Qd : Hp → Prop}
theorem lc_filtR {n : Nat} {tt : TT} (ys : Nat → V) (c : Nat → Bool) (hD : H1 D = none) (hz : n ≤ 1000000)
    (hs : ∀ (i : Nat) (H : Hp) (acc : List V) (R : V → Hp → Prop) (R0 : Hp → Prop), i < n → Adv [] H1 H → H D = some (.lst acc) → (c i = true → ∀ H4, H4 D = some (.lst acc) → Adv [] H1 H4 → R (ys i) H4) →
      (c i = false → ∀ H4, H4 D = some (.lst acc) → Adv [] H1 H4 → R0 H4) → g (.int (0 + (i : Nat))) (wipe σ vs) H fun σ2 H2 => wipe σ2 vs = wipe σ vs ∧ tt σ2 H2 fun b H3 => if b = true then te σ2 H3 R else R0 H3)
    (hd : ∀ H, Adv [] H1 H → H D = some (.lst (((List.range n).filter c).map ys)) → Qd H) :
    ∃ W : Nat → Nat → Hp → Prop, (∃ m, W 0 m (upd H1 D (.lst []))) ∧ ∀ i m H, W i m H →
      ((Itr 0 n).stop i H ∧ Qd H) ∨ ((Itr 0 n).go i H ∧ ∃ Nx : Hp → Prop, (∀ H', Nx H' → ∃ m', m' < m ∧ W (i + 1) m' H') ∧ ∀ x H', (Itr 0 n).yld i H x H' → g x (wipe σ vs) H' fun σ2 H2 => wipe σ2 vs = wipe σ vs ∧ tt σ2 H2 fun b H3 =>
        if b = true then te σ2 H3 fun y H4 => ∃ acc, H4 D = some (.lst acc) ∧ acc.length < sizeLine ∧ Nx (upd H4 D (.lst (acc ++ [y]))) else Nx H3) := by
  refine lc_range (lo := 0) (n := n) (tt := tt) (fun i H => Adv [] H1 H ∧ H D = some (.lst (((List.range i).filter c).map ys))) ⟨Adv.new hD, upd_same⟩ (fun i H hi p => ?_) (fun H p => hd H p.1 p.2)
  refine hs i H _ (fun y H4 => ∃ acc, H4 D = some (.lst acc) ∧ acc.length < sizeLine ∧ Adv [] H1 (upd H4 D (.lst (acc ++ [y]))) ∧ (upd H4 D (.lst (acc ++ [y]))) D = some (.lst (((List.range (i + 1)).filter c).map ys)))
    (fun H3 => Adv [] H1 H3 ∧ H3 D = some (.lst (((List.range (i + 1)).filter c).map ys))) hi p.1 p.2 (fun hc H4 e4 a4 => ⟨_, e4, ?_, Adv.mut a4 hD, ?_⟩) (fun hc H4 e4 a4 => ⟨a4, ?_⟩)
  · have h1 := List.length_filter_le c (List.range i)
    rw [List.length_range] at h1
    rw [List.length_map, sizeLine_eq]
    omega
  · rw [upd_same, range_filt_succ, if_pos hc]
  · rw [e4, range_filt_succ, if_neg (by rw [hc]; decide), List.append_nil]
end
end LL

set_option Elab.async false
set_option linter.all false
set_option maxRecDepth 100000
set_option maxHeartbeats 400000
/-! LNew: a dict from rows to rows -/
namespace LL
open PySem PySem.Spec PyProof.Rows L2
variable [KW]
def newT (l : List Nat) (f : Nat → Nat) : List (Key × V) := l.map fun (i : Nat) => (Sum.inl ((i : Nat) : Int), V.int ((f i : Nat) : Int))
end LL

set_option Elab.async false
set_option linter.all false
set_option maxRecDepth 100000
set_option maxHeartbeats 400000
/-! LStep: what a step of a reading keeps -/
namespace LL
open PySem PySem.Spec PyProof.Rows L2
variable [KW]
theorem denyF_pre (ns : List Nd) (r : Nat) : ns <+: (denyF ns r).2 := by
  unfold denyF
  exact (rowF_pre _ _).trans (rowF_pre _ _)
theorem stepF_pre (w : W3) (ns : List Nd) (i : Nat) (n : Nd) (f : Nat → Nat) : ns <+: (stepF w ns i n f).2 := by
  unfold stepF
  split
  · exact List.prefix_refl _
  · exact List.prefix_refl _
  · exact (denyF_pre _ _).trans (denyF_pre _ _)
  · exact rowF_pre _ _
  · exact (((denyF_pre _ _).trans (denyF_pre _ _)).trans (rowF_pre _ _)).trans (denyF_pre _ _)
  · exact (rowF_pre _ _).trans (rowF_pre _ _)
  · exact (rowF_pre _ _).trans (rowF_pre _ _)
  · exact rowF_pre _ _
theorem below_take {ns : List Nd} {rows : List Nat} {i r p : Nat} (hr : (belowF ns rows)[i]? = some r) (hp : p ∈ belowF ns rows) (hl : p < r) : p ∈ (belowF ns rows).take i := by
  have hs : (belowF ns rows).Pairwise (· < ·) := List.Pairwise.filter _ List.pairwise_lt_range
  obtain ⟨hi, e⟩ := List.getElem?_eq_some_iff.mp hr
  obtain ⟨j, hj, ej⟩ := List.getElem_of_mem hp
  rcases Nat.lt_or_ge j i with h | h
  · rw [← ej]
    exact List.mem_take_iff_getElem.mpr ⟨j, by omega, rfl⟩
  · rcases Nat.lt_or_eq_of_le h with h | h
    · have := List.pairwise_iff_getElem.mp hs i j hi hj h
      omega
    · subst h
      omega
end LL

set_option Elab.async false
set_option linter.all false
set_option maxRecDepth 100000
set_option maxHeartbeats 400000
/-! LRd: the readings of the constructs as lemmas by their heads, for a reading step by step -/
namespace LL
open PySem PySem.Spec PyProof.Rows L2
variable [KW]
section
variable {σ : L2.St} {H : Hp} {Q : VK} {B : Bool → Hp → Prop} {v x y : V} {ta tb te : TE} {K : PySem.W.Frag} {u t s : TS} {D : Ends} {N : L2.St → Hp → Prop}
theorem rd_var {i : Nat} (h : σ[i]? = some (some v)) (q : Q v H) : tVar i σ H Q := ⟨v, h, q⟩
theorem rd_c (q : Q v H) : tC v σ H Q := q
theorem rd_op {r : R2} (q : ta σ H fun x H1 => tb σ H1 fun y H2 => r x y H2 Q) : tOp r ta tb σ H Q := q
theorem rd_un {r : V → Hp → VK → Prop} (q : ta σ H fun x H1 => r x H1 Q) : tUn r ta σ H Q := q
theorem rd_eq (h : scal x y = true) (q : Q (.bl (decide (x = y))) H) : rEq x y H Q := ⟨h, q⟩
theorem rd_ne (h : scal x y = true) (q : Q (.bl (!decide (x = y))) H) : rNe x y H Q := ⟨h, q⟩
theorem rd_add {i j : Int} (q : Q (.int (i + j)) H) : rAdd (.int i) (.int j) H Q := ⟨i, j, rfl, rfl, q⟩
theorem rd_sub {i j : Int} (q : Q (.int (i - j)) H) : rSub (.int i) (.int j) H Q := ⟨i, j, rfl, rfl, q⟩
theorem rd_i0 {g : Int → Int → V} {i j : Int} (q : Q (g i j) H) : rI0 g (.int i) (.int j) H Q := ⟨i, j, rfl, rfl, q⟩
theorem rd_i {C : Int → Int → Prop} {g : Int → Int → V} {i j : Int} (h : C i j) (q : Q (g i j) H) : rI C g (.int i) (.int j) H Q := ⟨i, j, rfl, rfl, h, q⟩
theorem rd_isN (q : ta σ H fun x H1 => Q (.bl (decide (x = .non))) H1) : tIsN ta σ H Q := q
theorem rd_notN (q : ta σ H fun x H1 => Q (.bl (!decide (x = .non))) H1) : tNotN ta σ H Q := q
theorem rd_test (q : te σ H fun x H' => ∃ k, x = .bl k ∧ B k H') : tTest te σ H B := q
theorem rd_tB (q : te σ H fun x H' => ∃ k, x = .bl k ∧ B k H') : tB te σ H B := q
theorem rd_blP {k : Bool} {P : Bool → Prop} (q : P k) : ∃ c, V.bl k = .bl c ∧ P c := ⟨k, rfl, q⟩
theorem rd_and {a b : TT} (q : a σ H fun c H1 => if c = true then b σ H1 B else B false H1) : tAnd a b σ H B := q
theorem rd_or {a b : TT} (q : a σ H fun c H1 => if c = true then B true H1 else b σ H1 B) : tOr a b σ H B := q
theorem rd_not {a : TT} (q : a σ H fun c H1 => B (!c) H1) : tNot a σ H B := q
theorem rd_andV (q : ta σ H fun x H1 => ∃ c, x = .bl c ∧ if c = true then tb σ H1 Q else Q (.bl false) H1) : tAndV ta tb σ H Q := q
theorem rd_orV (q : ta σ H fun x H1 => ∃ c, x = .bl c ∧ if c = true then Q (.bl true) H1 else tb σ H1 Q) : tOrV ta tb σ H Q := q
theorem rd_notV (q : ta σ H fun x H1 => ∃ c, x = .bl c ∧ Q (.bl (!c)) H1) : tNotV ta σ H Q := q
theorem rd_ifE {c : TT} (q : c σ H fun b H1 => if b = true then ta σ H1 Q else tb σ H1 Q) : tIf c ta tb σ H Q := q
/-! statements -/
theorem rd_seq (q : t { D with nx := u D } σ H) : tSeq t u D σ H := q
theorem rd_nx {r : VK} {b c : L2.St → Hp → Prop} (q : N σ H) : tNext ⟨N, r, b, c⟩ σ H := q
theorem rd_ret (q : te σ H D.rt) : tRet te D σ H := q
theorem rd_retN (q : D.rt .non H) : tRetN D σ H := q
theorem rd_drop (q : te σ H fun _ H1 => D.nx σ H1) : tDrop te D σ H := q
theorem rd_asg {g : TG} (q : te σ H fun x H1 => g x σ H1 D.nx) : tAsg te g D σ H := q
theorem rd_gname {i : Nat} (q : N (σ.set i (some v)) H) : gName i v σ H N := q
theorem rd_gsub {i : TE} {f : TSet} (q : ta σ H fun o H1 => i σ H1 fun i H2 => f o i v H2 fun H3 => N σ H3) : gSub ta i f v σ H N := q
theorem rd_gtup {g : TGs} {a : Addr} {n : Nat} {xs : List V} (h : SqT K H a xs) (hl : xs.length = n) (q : g xs σ H N) : gTup K n g (.ref a) σ H N := ⟨a, xs, rfl, h, hl, q⟩
theorem rd_gcons {g : TG} {g' : TGs} {r : List V} (q : g v σ H fun σ' H' => g' r σ' H' N) : gCons g g' (v :: r) σ H N := ⟨v, r, rfl, q⟩
theorem rd_gnil (q : N σ H) : gNil [] σ H N := ⟨rfl, q⟩
theorem rd_ifS {c : TT} (q : c σ H fun b H1 => if b = true then t D σ H1 else u D σ H1) : tIfS c t u D σ H := q
theorem rd_par {i j : Nat} {tt : TA} (q : tt σ H fun vs H1 => ∃ v w, vs = [v, w] ∧ D.nx ((σ.set i (some v)).set j (some w)) H1) : tPar i j tt D σ H := q
theorem rd_two {P : V → V → Prop} (q : P v x) : ∃ a b, [v, x] = [a, b] ∧ P a b := ⟨v, x, rfl, q⟩
theorem rd_par3 {i j l : Nat} {tt : TA} (q : tt σ H fun vs H1 => ∃ u v w, vs = [u, v, w] ∧ D.nx (((σ.set i (some u)).set j (some v)).set l (some w)) H1) : tPar3 i j l tt D σ H := q
theorem rd_three {z : V} {P : V → V → V → Prop} (q : P v x z) : ∃ a b c, [v, x, z] = [a, b, c] ∧ P a b c := ⟨v, x, z, rfl, q⟩
theorem rd_int1 {P : Int → Prop} {R : Prop} {i : Int} (q : P i) : (∃ j, [V.int i] = [V.int j] ∧ P j) ∨ R := .inl ⟨i, rfl, q⟩
theorem rd_for {wi : TI} {g : TG} {tb : TS} (q : wi σ H fun J H1 => ∃ W : Nat → Nat → L2.St → Hp → Prop, (∃ m, W 0 m σ H1) ∧ ∀ i m σ H, W i m σ H →
    (J.stop i H ∧ D.nx σ H) ∨ (J.go i H ∧ ∃ N : L2.St → Hp → Prop, (∀ σ' H', N σ' H' → ∃ m', m' < m ∧ W (i + 1) m' σ' H') ∧ ∀ x H', J.yld i H x H' → g x σ H' fun σ2 H2 => tb { D with nx := N, ct := N, bk := D.nx } σ2 H2)) : tFor wi g tb D σ H := q
theorem rd_rng1 {ta : TA} {R : It → Hp → Prop} (q : ta σ H fun vs H1 => ∃ j : Int, vs = [.int j] ∧ -(2 ^ 62) ≤ j ∧ j < 2 ^ 62 ∧ R (Itr 0 j.toNat) H1) : iRng1 ta σ H R := q
theorem rd_rng2 {ta : TA} {R : It → Hp → Prop} (q : ta σ H fun vs H1 => ∃ i j : Int, vs = [.int i, .int j] ∧ (-(2 ^ 62) ≤ i ∧ i < 2 ^ 62 ∧ -(2 ^ 62) ≤ j ∧ j < 2 ^ 62) ∧ R (Itr i (j - i).toNat) H1) : iRng2 ta σ H R := q
theorem rd_ints1 {P : Int → Prop} {i : Int} (q : P i) : ∃ j, [V.int i] = [V.int j] ∧ P j := ⟨i, rfl, q⟩
theorem rd_ints2 {P : Int → Int → Prop} {i j : Int} (q : P i j) : ∃ a b, [V.int i, V.int j] = [V.int a, V.int b] ∧ P a b := ⟨i, j, rfl, q⟩
/-! arguments, displays -/
theorem rd_nil {A : List V → Hp → Prop} (q : A [] H) : tNil σ H A := q
theorem rd_cons {tr : TA} {A : List V → Hp → Prop} (q : ta σ H fun x H1 => tr σ H1 fun xs H2 => A (x :: xs) H2) : tCons ta tr σ H A := q
theorem rd_tup {tt : TA} (q : tt σ H fun xs H1 => xs.length ≤ sizeLine ∧ ∀ p, H1 p = none → Q (.ref p) (upd H1 p (.tup xs))) : tTup tt σ H Q := q
theorem rd_lst {tt : TA} (q : tt σ H fun xs H1 => xs.length ≤ sizeLine ∧ ∀ p, H1 p = none → Q (.ref p) (upd H1 p (.lst xs))) : tLst tt σ H Q := q
theorem rd_call {sp : Sp} {dvs : List V} {E : XK} {tt : TA} (q : tt σ H fun vs H1 => sp (vs ++ dvs) H1 Q E) : tCall sp dvs E tt σ H Q := q
theorem rd_make {C : Addr} {sp : Sp} {dvs : List V} {E : XK} {tt : TA} (q : tt σ H fun vs H1 => ∀ x dx, H1 x = none → H1 dx = none → dx ≠ x → sp (.ref x :: (vs ++ dvs)) (upd (upd H1 dx (.own x)) x (.ins C dx [])) (fun v H2 => v = .non ∧ Q (.ref x) H2) E) : tMake C sp dvs E tt σ H Q := q
theorem rd_callS {sp : Sp} {E : L2.St → XK} {tt : TA} (q : tt σ H fun vs H1 => sp vs H1 Q (E σ)) : tCallS sp E tt σ H Q := q
theorem rd_cb {r : List V → Hp → VK → Prop} {tt : TA} (q : tt σ H fun vs H1 => r vs H1 Q) : tCB r tt σ H Q := q
theorem rd_meth {C : Addr} {m : Str} {sp : Sp} {dvs : List V} {E : XK} {tt : TA} (q : ta σ H fun x H1 => ∃ a dx fs, x = .ref a ∧ H1 a = some (.ins C dx fs) ∧ fs.lookup m = none ∧ tt σ H1 fun vs H2 => sp (x :: (vs ++ dvs)) H2 Q E) : tMeth C m sp dvs E ta tt σ H Q := q
theorem rd_fld {f : Str} (q : ta σ H fun x H1 => ∃ a C dx fs v, x = .ref a ∧ H1 a = some (.ins C dx fs) ∧ Cls K C ∧ NoAttr K C f ∧ fs.lookup f = some v ∧ Q v H1) : tFld K ta f σ H Q := q
theorem rd_part {Z : Option Int → Hp → Prop} (q : te σ H fun x H1 => ∃ i, x = .int i ∧ Z (some i) H1) : tPart te σ H Z := q
theorem rd_nopart {Z : Option Int → Hp → Prop} (q : Z none H) : tNoPart σ H Z := q
theorem rd_int {P : Int → Prop} {i : Int} (q : P i) : ∃ j, V.int i = .int j ∧ P j := ⟨i, rfl, q⟩
theorem rd_sl {r : V → Option Int → Option Int → Hp → VK → Prop} {tl th : TO} (q : te σ H fun x H1 => tl σ H1 fun l H2 => th σ H2 fun u H3 => r x l u H3 Q) : tSl r te tl th σ H Q := q
theorem rd_bm {T : String} {r : V → List V → Hp → VK → Prop} {tt : TA} (q : te σ H fun x H1 => tyV K T x H1 ∧ tt σ H1 fun xs H2 => r x xs H2 Q) : tBM K T r te tt σ H Q := q
theorem rd_bm0 {T : String} {r : V → List V → Hp → VK → Prop} (q : te σ H fun x H1 => tyV K T x H1 ∧ r x [] H1 Q) : tBM0 K T r te σ H Q := q
theorem rd_tyL {a : Addr} {xs : List V} {T : Prop} (h : H a = some (.lst xs)) (q : T) : tyV K "list" (.ref a) H ∧ T := ⟨.inl ⟨rfl, _, SqL.of h⟩, q⟩
/-! readings of the heap -/
theorem rd_slL {a : Addr} {xs : List V} {lo hi : Option Int} (h : H a = some (.lst xs)) (q : ∀ p, H p = none → Q (.ref p) (upd H p (.lst (cutV xs lo hi)))) : rSlL K (.ref a) lo hi H Q := ⟨a, xs, rfl, SqL.of h, q⟩
theorem rd_u {g : Int → V} {i : Int} (q : Q (g i) H) : rU g (.int i) H Q := ⟨i, rfl, q⟩
theorem rd_ixL {p : Addr} {xs : List V} {i : Int} (h : H p = some (.lst xs)) (e : atI xs i = some v) (q : Q v H) : rIxL K (.ref p) (.int i) H Q := ⟨p, xs, i, v, rfl, rfl, SqL.of h, e, q⟩
theorem rd_ixT {p : Addr} {xs : List V} {i : Int} (h : SqT K H p xs) (e : atI xs i = some v) (q : Q v H) : rIxT K (.ref p) (.int i) H Q := ⟨p, xs, i, v, rfl, rfl, h, e, q⟩
theorem rd_lenT {xs : List V} {p : Addr} {P : List V → Prop} (h : SqT K H p xs) (q : P xs) : ∃ (p' : Addr) (xs' : List V), [V.ref p] = [V.ref p'] ∧ (SqL K H p' xs' ∨ SqT K H p' xs') ∧ P xs' := ⟨p, xs, rfl, .inr h, q⟩
theorem rd_len {xs : List V} {p : Addr} {P : List V → Prop} (h : H p = some (.lst xs)) (q : P xs) : ∃ (p' : Addr) (xs' : List V), [V.ref p] = [V.ref p'] ∧ (SqL K H p' xs' ∨ SqT K H p' xs') ∧ P xs' := ⟨p, xs, rfl, .inl (SqL.of h), q⟩
theorem rd_app {l : Addr} {xs : List V} (h : H l = some (.lst xs)) (hl : xs.length < sizeLine) (q : Q .non (upd H l (.lst (xs ++ [y])))) : rAppend (.ref l) [y] H Q := ⟨l, xs, y, rfl, rfl, h, hl, q⟩
theorem rd_dgetT {td ty : TE} (q : td σ H fun x H1 => ty σ H1 fun y H2 => ∃ a v, x = .ref a ∧ DGet H2 a y (some v) ∧ Q v H2) : tDGet td ty σ H Q := q
theorem rd_din {td ty : TE} (q : ty σ H fun y H1 => td σ H1 fun x H2 => ∃ a o, x = .ref a ∧ DGet H2 a y o ∧ Q (.bl o.isSome) H2) : tDIn ty td σ H Q := q
theorem rd_dnin {td ty : TE} (q : ty σ H fun y H1 => td σ H1 fun x H2 => ∃ a o, x = .ref a ∧ DGet H2 a y o ∧ Q (.bl (!o.isSome)) H2) : tDNotIn ty td σ H Q := q
end
theorem rd_rfl {α : Type} {x : α} {T : Prop} (q : T) : x = x ∧ T := ⟨rfl, q⟩
theorem Adv.get' {M : List Addr} {H H' : Hp} {p : Addr} {o : HO} (a : Adv M H H') (e : H p = some o) (hp : p ∉ M) : H' p = some o := a p o hp e
theorem notin2 {a b c : Addr} (h : a ≠ b) (h' : a ≠ c) : a ∉ [b, c] := by simp [h, h']
theorem notin1 {a b : Addr} (h : a ≠ b) : a ∉ [b] := by simp [h]
theorem notin0 {a : Addr} : a ∉ ([] : List Addr) := by simp
end LL

set_option Elab.async false
set_option linter.all false
set_option maxRecDepth 100000
set_option maxHeartbeats 400000
/-! LDue: the answers of the three readings, in plain words -/
namespace LL
open PySem PySem.Spec PyProof.Rows L2
variable [KW]
def W3.boxes : W3 → Bool
  | .dou => true
  | _ => false
def lenD : PyData → Nat
  | .list ds => ds.length
  | _ => 0
/-- the grown sheet and the rows' readings -/
def readA (w : W3) (ns : List Nd) (row : Nat) : List Nd × (Nat → Nat) := readF w ns (belowF ns [row]) ns (fun _ => 0)
/-- what is due -/
inductive Due (w : W3) (d r : PyData) : PyData → Prop
  | sheet (i : Int) (h : wrongD 5000 w.boxes d = some i) : Due w d r (.tuple [.str "BadSheet", .int i])
  | value (h : wrongD 5000 w.boxes d = none) (h2 : isNum 0 ((lenD d : Int) - 1) r = false) : Due w d r (.tuple [.str "BadValue", .str "row"])
  | told (ns : List Nd) (row : Nat) (h : wrongD 5000 w.boxes d = none) (hd : d = .list (ns.map Nd.data)) (ok : okSheet w.boxes ns) (hl : ns.length ≤ 5000) (hr : r = .int row) (hlt : row < ns.length) :
      Due w d r (.tuple [.str "told", .tuple [.list ((readA w ns row).1.map Nd.data), .int ((readA w ns row).2 row : Nat)]])
theorem nd_data_inj {m n : Nd} (h : m.data = n.data) : m = n := by
  have : m.keys = n.keys := by rw [← Nd.keysD, ← Nd.keysD, h]
  exact keys_inj this
theorem nds_inj : ∀ {ms ns : List Nd}, ms.map Nd.data = ns.map Nd.data → ms = ns
  | [], [], _ => rfl
  | [], n :: ns, h => by simp at h
  | m :: ms, [], h => by simp at h
  | m :: ms, n :: ns, h => by
    rw [List.map_cons, List.map_cons] at h
    injection h with h1 h2
    rw [nd_data_inj h1, nds_inj h2]
theorem nd_sz (n : Nd) : sz n.data ≤ 4 := by
  unfold Nd.data
  rw [sz_tup, ks_sz]
  cases n <;> simp [Nd.keys]
theorem nds_sz (ns : List Nd) : szL (ns.map Nd.data) ≤ 4 * ns.length := by
  induction ns with
  | nil => rw [List.map_nil, szL_nil]; exact Nat.zero_le _
  | cons n ns ih =>
    rw [List.map_cons, szL_cons, List.length_cons]
    have := nd_sz n
    omega
theorem below_len (ns : List Nd) (rows : List Nat) : (belowF ns rows).length ≤ ns.length := by
  have := List.length_filter_le (marked ns rows) (List.range ns.length)
  rw [List.length_range] at this
  exact this
end LL

set_option Elab.async false
set_option linter.all false
set_option maxRecDepth 100000
set_option maxHeartbeats 400000
/-! LDw: a stream s and a book bk (a list b0 of nodes, their table b1) while formulas are drawn -/
namespace LL
open PySem PySem.Spec PyProof.Rows L2
variable [KW]
structure Dw (M : List Addr) (H : Hp) (s bk b0 b1 : Addr) (bx : Bool) (ns : List Nd) : Prop where
  str : StrAt M H s
  hbk : H bk = some (.lst [.ref b0, .ref b1])
  ms : s ∈ M
  kM : bk ∉ M
  s0 : s ≠ b0
  s1 : s ≠ b1
  B : BkN M H b0 b1 ns
  ok : okSheet bx ns
section
variable {M N : List Addr} {H H' : Hp} {s bk b0 b1 p : Addr} {bx : Bool} {ns : List Nd} {o : HO}
theorem Dw.ks (x : Dw M H s bk b0 b1 bx ns) : bk ∉ [s] := by simp; exact fun z => x.kM (by rw [z]; exact x.ms)
theorem Dw.kb (x : Dw M H s bk b0 b1 bx ns) : bk ∉ [b0, b1] := fun z => by
  rcases List.mem_cons.mp z with z | z
  · exact x.kM (by rw [z]; exact x.B.m0)
  · exact x.kM (by rw [List.mem_singleton.mp z]; exact x.B.m1)
theorem Dw.next (x : Dw M H s bk b0 b1 bx ns) (a : Adv [s] H H') (hs : StrAt M H' s) : Dw M H' s bk b0 b1 bx ns :=
  ⟨hs, a _ _ x.ks x.hbk, x.ms, x.kM, x.s0, x.s1, x.B.adv a (by simpa using x.s0.symm) (by simpa using x.s1.symm) (by simp [x.ms]) (by simpa using hs.here), x.ok⟩
theorem Dw.same (x : Dw M H s bk b0 b1 bx ns) (a : Adv [] H H') : Dw M H' s bk b0 b1 bx ns :=
  ⟨x.str.same a, a.same _ _ x.hbk, x.ms, x.kM, x.s0, x.s1, x.B.same a, x.ok⟩
theorem Dw.free (x : Dw M H s bk b0 b1 bx ns) (h : H p = none) : p ∉ M ∧ p ≠ s ∧ p ≠ bk ∧ p ≠ b0 ∧ p ≠ b1 := by
  have hm : p ∉ M := fun z => x.B.al p z h
  refine ⟨hm, fun z => hm (by rw [z]; exact x.ms), fun z => ?_, fun z => hm (by rw [z]; exact x.B.m0), fun z => hm (by rw [z]; exact x.B.m1)⟩
  rw [z, x.hbk] at h; cases h
theorem Dw.fresh (x : Dw M H s bk b0 b1 bx ns) (h : H p = none) : Dw (p :: M) (upd H p o) s bk b0 b1 bx ns := by
  have hf := x.free h
  exact ⟨(x.str.fresh h).same (Adv.new h), by rw [upd_ne hf.2.2.1.symm]; exact x.hbk, by simp [x.ms], by simp [hf.2.2.1.symm, x.kM], x.s0, x.s1, x.B.fresh h, x.ok⟩
theorem Dw.less (x : Dw M H s bk b0 b1 bx ns) (h : ∀ b ∈ N, b ∈ M) (ms : s ∈ N) (m0 : b0 ∈ N) (m1 : b1 ∈ N) : Dw N H s bk b0 b1 bx ns :=
  ⟨x.str.less h, x.hbk, ms, fun z => x.kM (h _ z), x.s0, x.s1, x.B.less h m0 m1, x.ok⟩
/-- an object of M that is neither the stream nor the book is changed -/
theorem Dw.put (x : Dw M H s bk b0 b1 bx ns) (hp : p ∈ M) (n0 : p ≠ s) (n1 : p ≠ b0) (n2 : p ≠ b1) : Dw M (upd H p o) s bk b0 b1 bx ns := by
  have a : Adv [p] H (upd H p o) := Adv.set (by simp)
  have kp : bk ≠ p := fun z => x.kM (by rw [z]; exact hp)
  exact ⟨x.str.adv a (by simpa using n0.symm) (by simp [hp]), by rw [upd_ne kp]; exact x.hbk, x.ms, x.kM, x.s0, x.s1, x.B.adv a (by simpa using n1.symm) (by simpa using n2.symm) (by simp [hp]) (by simp [upd_same]), x.ok⟩
theorem Dw.row {n : Nd} (x : Dw M H s bk b0 b1 bx ns) (hn : n.ok bx ns.length = true) (a : Adv [b0, b1] H H') (B : BkN M H' b0 b1 (rowF ns n).2) : Dw M H' s bk b0 b1 bx (rowF ns n).2 :=
  ⟨x.str.adv a (notin2 x.s0 x.s1) (by simp [x.B.m0, x.B.m1]), a _ _ x.kb x.hbk, x.ms, x.kM, x.s0, x.s1, B, rowF_ok x.ok hn⟩
theorem a_s {b : Addr} {c : Addr} (a : Adv [s] H H') : Adv [s, b, c] H H' := a.more (by simp)
theorem a_b {b c : Addr} (a : Adv [b, c] H H') : Adv [s, b, c] H H' := a.more (by simp +contextual)
end
/-- what a draw hands back -/
structure Dn (c : Nat) (M : List Addr) (s bk b0 b1 : Addr) (bx : Bool) (ns : List Nd) (H : Hp) (r : Nat) (ns' : List Nd) (H' : Hp) : Prop where
  pre : ns <+: ns'
  lt : r < ns'.length
  le : ns'.length ≤ ns.length + c
  D : Dw M H' s bk b0 b1 bx ns'
  a : Adv [s, b0, b1] H H'
theorem Dn.ge {c : Nat} {M : List Addr} {s bk b0 b1 : Addr} {bx : Bool} {ns : List Nd} {H : Hp} {r : Nat} {ns' : List Nd} {H' : Hp} (x : Dn c M s bk b0 b1 bx ns H r ns' H') : ns.length ≤ ns'.length := x.pre.length_le
end LL

set_option Elab.async false
set_option linter.all false
set_option maxRecDepth 100000
set_option maxHeartbeats 400000
/-! LOk: a reading keeps a sheet right -/
namespace LL
open PySem PySem.Spec PyProof.Rows L2
variable [KW]
theorem denyF_ok {bx : Bool} {ns : List Nd} {r : Nat} (ok : okSheet bx ns) (h : r < ns.length) : okSheet bx (denyF ns r).2 ∧ (denyF ns r).1 < (denyF ns r).2.length := by
  have o1 : okSheet bx (rowF ns .no).2 := rowF_ok ok rfl
  have l1 := rowF_lt ns .no
  have p1 := (rowF_pre ns .no).length_le
  unfold denyF
  exact ⟨rowF_ok o1 (by simp only [Nd.ok, Bool.and_eq_true, decide_eq_true_eq]; omega), rowF_lt _ _⟩
theorem moved_ok {bx : Bool} {ns : List Nd} {n : Nd} {f : Nat → Nat} {i : Nat} (hn : n.ok bx i = true) (hf : ∀ p ∈ n.parts, f p < ns.length) : (n.moved f).ok bx ns.length = true := by
  cases n with
  | no => rfl
  | letter j => exact hn
  | bin o j k =>
    simp only [Nd.moved, Nd.ok, Bool.and_eq_true, decide_eq_true_eq]
    exact ⟨hf j (by simp [Nd.parts]), hf k (by simp [Nd.parts])⟩
  | box j =>
    simp only [Nd.moved, Nd.ok, Bool.and_eq_true, decide_eq_true_eq] at hn ⊢
    exact ⟨hn.1, hf j (by simp [Nd.parts])⟩
theorem step1 {bx : Bool} {ns : List Nd} {n : Nd} (ok : okSheet bx ns) (hn : n.ok bx ns.length = true) : okSheet bx (rowF ns n).2 ∧ (rowF ns n).1 < (rowF ns n).2.length ∧ ns.length ≤ (rowF ns n).2.length :=
  ⟨rowF_ok ok hn, rowF_lt _ _, (rowF_pre ns n).length_le⟩
theorem stepF_ok {w : W3} {bx : Bool} {ns : List Nd} {n : Nd} {i : Nat} {f : Nat → Nat} (hw : w = .neg ∨ bx = true) (ok : okSheet bx ns) (hn : n.ok bx i = true) (hi : i < ns.length) (hf : ∀ p ∈ n.parts, f p < ns.length) :
    okSheet bx (stepF w ns i n f).2 ∧ (stepF w ns i n f).1 < (stepF w ns i n f).2.length := by
  have hm := moved_ok (ns := ns) hn hf
  have plain : okSheet bx (rowF ns (n.moved f)).2 ∧ (rowF ns (n.moved f)).1 < (rowF ns (n.moved f)).2.length := ⟨(step1 ok hm).1, (step1 ok hm).2.1⟩
  unfold stepF
  split
  · exact ⟨ok, hi⟩
  · exact ⟨ok, hi⟩
  · obtain ⟨o1, l1⟩ := denyF_ok ok hi
    exact denyF_ok o1 l1
  · rcases hw with hw | hw
    · cases hw
    · have := step1 ok (n := .box i) (by simp only [Nd.ok, Bool.and_eq_true, decide_eq_true_eq]; exact ⟨hw, hi⟩)
      exact ⟨this.1, this.2.1⟩
  · rename_i j k
    have hj := hf j (by simp [Nd.parts])
    have hk := hf k (by simp [Nd.parts])
    obtain ⟨o1, l1⟩ := denyF_ok ok hj
    have p1 := (denyF_pre ns (f j)).length_le
    obtain ⟨o2, l2⟩ := denyF_ok o1 (r := f k) (by omega)
    have p2 := (denyF_pre (denyF ns (f j)).2 (f k)).length_le
    obtain ⟨o3, l3, p3⟩ := step1 o2 (n := .bin .and (denyF ns (f j)).1 (denyF (denyF ns (f j)).2 (f k)).1) (by simp only [Nd.ok, Bool.and_eq_true, decide_eq_true_eq]; omega)
    exact denyF_ok o3 l3
  · rename_i j k
    obtain ⟨o1, l1, p1⟩ := step1 ok (n := .bin .imp (f j) (f k)) hm
    rcases hw with hw | hw
    · cases hw
    · have := step1 o1 (n := .box (rowF ns (.bin .imp (f j) (f k))).1) (by simp only [Nd.ok, Bool.and_eq_true, decide_eq_true_eq]; exact ⟨hw, l1⟩)
      exact ⟨this.1, this.2.1⟩
  · rename_i j
    have hj := hf j (by simp [Nd.parts])
    obtain ⟨o1, l1, p1⟩ := step1 ok (n := .box (f j)) hm
    have := step1 o1 (n := .bin .and (f j) (rowF ns (.box (f j))).1) (by simp only [Nd.ok, Bool.and_eq_true, decide_eq_true_eq]; omega)
    exact ⟨this.1, this.2.1⟩
  · exact plain
theorem readF_ok {w : W3} {bx : Bool} {old : List Nd} (hw : w = .neg ∨ bx = true) (oo : okSheet bx old) : ∀ (l : List Nat) (ns : List Nd) (f : Nat → Nat) (done : List Nat), okSheet bx ns → old.length ≤ ns.length → (∀ i ∈ done, f i < ns.length) →
    (∀ i ∈ l, i < old.length) → (∀ (a : List Nat) (i : Nat) (b : List Nat) (n : Nd), l = a ++ i :: b → old[i]? = some n → ∀ p ∈ n.parts, p ∈ done ++ a) → okSheet bx (readF w old l ns f).1
  | [], ns, f, done, ok, _, _, _, _ => ok
  | i :: l, ns, f, done, ok, hl, hd, hi, hp => by
    have hil := hi i List.mem_cons_self
    have hni : old[i]? = some old[i] := List.getElem?_eq_getElem hil
    have hs := stepF_ok (w := w) (ns := ns) (n := old[i]) (i := i) (f := f) hw ok (oo.2 i _ hni) (by omega) (fun p hp' => hd p (by have := hp [] i l _ rfl hni p hp'; simpa using this))
    have hpre := (stepF_pre w ns i old[i] f).length_le
    unfold readF
    rw [hni]
    refine readF_ok hw oo l _ _ (done ++ [i]) hs.1 (by show old.length ≤ (stepF w ns i old[i] f).2.length; omega) (fun j hj => ?_) (fun j hj => hi j (List.mem_cons_of_mem _ hj)) (fun a j b n e hn p hp' => ?_)
    · show (if j = i then (stepF w ns i old[i] f).1 else f j) < (stepF w ns i old[i] f).2.length
      by_cases e : j = i
      · rw [if_pos e]; exact hs.2
      · rw [if_neg e]
        rcases List.mem_append.mp hj with hj | hj
        · have := hd j hj; omega
        · exact absurd (List.mem_singleton.mp hj) e
    · have := hp (i :: a) j b n (by rw [e]; rfl) hn p hp'
      rw [List.append_assoc]
      exact this
theorem readA_ok {w : W3} {bx : Bool} {ns : List Nd} {row : Nat} (hw : w = .neg ∨ bx = true) (ok : okSheet bx ns) : okSheet bx (readA w ns row).1 := by
  refine readF_ok hw ok _ ns _ [] ok (Nat.le_refl _) (fun i hi => nomatch hi) (fun i hi => (below_mem.mp hi).1) (fun a i b n e hn p hp => ?_)
  have hm : i ∈ belowF ns [row] := by rw [e]; simp
  obtain ⟨h1, h2⟩ := below_parts ok hm hn p hp
  have hr : (belowF ns [row])[a.length]? = some i := by rw [e]; simp
  have := below_take hr h1 h2
  rw [e, List.take_append_of_le_length (Nat.le_refl _), List.take_length] at this
  simpa using this
theorem Dw.read {M : List Addr} {H H' : Hp} {s bk b0 b1 : Addr} {bx : Bool} {ns : List Nd} {w : W3} {row : Nat} (x : Dw M H s bk b0 b1 bx ns) (hw : w = .neg ∨ bx = true) (a : Adv [b0, b1] H H') (B : BkN M H' b0 b1 (readA w ns row).1) : Dw M H' s bk b0 b1 bx (readA w ns row).1 :=
  ⟨x.str.adv a (notin2 x.s0 x.s1) (by simp [x.B.m0, x.B.m1]), a _ _ x.kb x.hbk, x.ms, x.kM, x.s0, x.s1, B, readA_ok hw x.ok⟩
/-- a new book -/
theorem Dw.new {M : List Addr} {H : Hp} {s b0 b1 bk : Addr} {bx : Bool} (hs : StrAt M H s) (ms : s ∈ M) (hal : ∀ b ∈ M, H b ≠ none) (n0 : H b0 = none) (n1 : (upd H b0 (.lst [])) b1 = none) (nk : (upd (upd H b0 (.lst [])) b1 (dxo b1 [])) bk = none) :
    Dw (b1 :: b0 :: M) (upd (upd (upd H b0 (.lst [])) b1 (dxo b1 [])) bk (.lst [.ref b0, .ref b1])) s bk b0 b1 bx [] := by
  have e01 : b0 ≠ b1 := ne_of_none (upd_same (H := H)) n1
  have a0 : Adv [] H (upd H b0 (.lst [])) := Adv.new n0
  have a1 : Adv [] (upd H b0 (.lst [])) (upd (upd H b0 (.lst [])) b1 (dxo b1 [])) := Adv.new n1
  have a2 : Adv [] _ (upd (upd (upd H b0 (.lst [])) b1 (dxo b1 [])) bk (.lst [.ref b0, .ref b1])) := Adv.new nk
  have h0 : (upd (upd H b0 (.lst [])) b1 (dxo b1 [])) b0 = some (.lst []) := a1.same _ _ upd_same
  have h1 : (upd (upd H b0 (.lst [])) b1 (dxo b1 [])) b1 = some (dxo b1 []) := upd_same
  have k0 : bk ≠ b0 := (ne_of_none h0 nk).symm
  have k1 : bk ≠ b1 := (ne_of_none h1 nk).symm
  have nkH : H bk = none := a0.free (by simp) (a1.free (by simp) nk)
  have s0 : s ≠ b0 := fun z => hal s ms (by rw [z]; exact n0)
  have s1 : s ≠ b1 := fun z => hal s ms (by rw [z]; exact a0.free (by simp) n1)
  refine ⟨(((hs.fresh n0).same a0).fresh n1).same (a1.trans a2), upd_same, by simp [ms], fun z => ?_, s0, s1, ⟨⟨[], a2.same _ _ h0, .nil⟩, (Tab.new h1).same a2, by simp, by simp, e01, fun b hb => ?_⟩, ⟨List.nodup_nil, fun i n hi => by simp at hi⟩⟩
  · rcases List.mem_cons.mp z with z | z
    · exact k1 z
    · rcases List.mem_cons.mp z with z | z
      · exact k0 z
      · exact hal bk z nkH
  · rcases List.mem_cons.mp hb with z | hb
    · rw [z, a2.same _ _ h1]; simp
    · rcases List.mem_cons.mp hb with z | hb
      · rw [z, a2.same _ _ h0]; simp
      · cases e : H b with
        | none => exact absurd e (hal b hb)
        | some o => rw [((a0.trans a1).trans a2).same _ _ e]; simp
/-! ### small data -/
def scV : V → Bool
  | .non => true
  | .bl _ => true
  | .int _ => true
  | .str _ => true
  | _ => false
def scD : V → PyData
  | .bl b => .bool b
  | .int i => .int i
  | .str x => .str x
  | _ => .none
theorem sc_is {M : List Addr} {H : Hp} {v : V} (h : scV v = true) : Is M H (scD v) v := by
  cases v with
  | non => exact Is.non
  | bl b => exact Is.bl
  | int i => exact Is.int
  | str x => exact Is.str
  | _ => cases h
theorem sc_sz (v : V) : sz (scD v) = 1 := by cases v <;> (unfold scD sz; rfl)
theorem sc_dep (v : V) : dep (scD v) = 0 := by cases v <;> (unfold scD dep; rfl)
/-- a small datum -/
def SmD (M : List Addr) (H : Hp) (v : V) : Prop := ∃ d, Is M H d v ∧ sz d ≤ 10 ∧ dep d ≤ 3
def SmDs (M : List Addr) (H : Hp) (vs : List V) : Prop := ∃ ds, IsDs M H ds vs ∧ ∀ d ∈ ds, sz d ≤ 10 ∧ dep d ≤ 3
section
variable {M N : List Addr} {H H' : Hp} {v : V} {vs ws : List V} {p : Addr}
theorem SmD.adv (x : SmD M H v) (a : Adv M H H') : SmD M H' v := let ⟨d, h, z⟩ := x; ⟨d, h.adv a, z⟩
theorem SmDs.adv (x : SmDs M H vs) (a : Adv M H H') : SmDs M H' vs := let ⟨d, h, z⟩ := x; ⟨d, h.adv a, z⟩
theorem SmD.sc (h : scV v = true) : SmD M H v := ⟨scD v, sc_is h, by rw [sc_sz]; decide, by rw [sc_dep]; decide⟩
theorem SmDs.nil : SmDs M H [] := ⟨[], .nil, by simp⟩
theorem SmDs.cons (x : SmD M H v) (y : SmDs M H vs) : SmDs M H (v :: vs) := by
  obtain ⟨d, h, z⟩ := x
  obtain ⟨ds, hs, zs⟩ := y
  refine ⟨d :: ds, .cons h hs, fun e he => ?_⟩
  rcases List.mem_cons.mp he with rfl | he
  · exact z
  · exact zs e he
theorem SmDs.app (x : SmDs M H vs) (y : SmDs M H ws) : SmDs M H (vs ++ ws) := by
  obtain ⟨ds, h, z⟩ := x
  obtain ⟨es, hs, zs⟩ := y
  refine ⟨ds ++ es, h.app hs, fun e he => ?_⟩
  rcases List.mem_append.mp he with he | he
  · exact z e he
  · exact zs e he
theorem SmDs.get (x : SmDs M H vs) {i : Nat} (h : vs[i]? = some v) : SmD M H v := by
  obtain ⟨ds, hs, zs⟩ := x
  obtain ⟨d, hd, hi⟩ := hs.getV h
  exact ⟨d, hi, zs d (List.mem_of_getElem? hd)⟩
theorem SmDs.mem (x : SmDs M H vs) (h : v ∈ vs) : SmD M H v := let ⟨_, hi⟩ := List.getElem?_of_mem h; x.get hi
end
/-! ### rows: tuples of keys -/
def kT (ks : List Key) : PyData := .tuple (ks.map keyDt)
def RwD (M : List Addr) (H : Hp) (v : V) : Prop := ∃ ks : List Key, ks.length ≤ 3 ∧ Is M H (kT ks) v
def RwDs (M : List Addr) (H : Hp) (vs : List V) : Prop := ∃ kss : List (List Key), IsDs M H (kss.map kT) vs ∧ ∀ ks ∈ kss, ks.length ≤ 3
section
variable {M N : List Addr} {H H' : Hp} {v : V} {vs ws : List V} {p : Addr}
theorem RwD.adv (x : RwD M H v) (a : Adv M H H') : RwD M H' v := let ⟨d, z, h⟩ := x; ⟨d, z, h.adv a⟩
theorem RwDs.adv (x : RwDs M H vs) (a : Adv M H H') : RwDs M H' vs := let ⟨d, h, z⟩ := x; ⟨d, h.adv a, z⟩
theorem RwDs.fresh (x : RwDs M H vs) (h : H p = none) : RwDs (p :: M) H vs := let ⟨d, y, z⟩ := x; ⟨d, y.fresh h, z⟩
theorem RwDs.less (x : RwDs M H vs) (h : ∀ b ∈ N, b ∈ M) : RwDs N H vs := let ⟨d, y, z⟩ := x; ⟨d, y.less h, z⟩
theorem RwDs.nil : RwDs M H [] := ⟨[], .nil, by simp⟩
theorem RwDs.cons (x : RwD M H v) (y : RwDs M H vs) : RwDs M H (v :: vs) := by
  obtain ⟨d, z, h⟩ := x
  obtain ⟨ds, hs, zs⟩ := y
  refine ⟨d :: ds, .cons h hs, fun e he => ?_⟩
  rcases List.mem_cons.mp he with rfl | he
  · exact z
  · exact zs e he
theorem RwDs.app (x : RwDs M H vs) (y : RwDs M H ws) : RwDs M H (vs ++ ws) := by
  obtain ⟨ds, h, z⟩ := x
  obtain ⟨es, hs, zs⟩ := y
  refine ⟨ds ++ es, by rw [List.map_append]; exact h.app hs, fun e he => ?_⟩
  rcases List.mem_append.mp he with he | he
  · exact z e he
  · exact zs e he
theorem RwDs.get (x : RwDs M H vs) {i : Nat} (h : vs[i]? = some v) : RwD M H v := by
  obtain ⟨ds, hs, zs⟩ := x
  obtain ⟨d, hd, hi⟩ := hs.getV h
  rw [List.getElem?_map, Option.map_eq_some_iff] at hd
  obtain ⟨ks, hk, rfl⟩ := hd
  exact ⟨ks, zs ks (List.mem_of_getElem? hk), hi⟩
theorem RwD.sm (x : RwD M H v) : SmD M H v := by
  obtain ⟨ks, z, h⟩ := x
  exact ⟨_, h, by unfold kT; rw [sz_tup, ks_sz]; omega, by unfold kT; rw [dep_tup, ks_dep]; omega⟩
theorem RwD.at_ (x : RwD M H v) : ∃ (a : Addr) (ks : List Key), v = .ref a ∧ Tp M H a (ks.map kV) ∧ ks.length ≤ 3 := by
  obtain ⟨ks, z, h⟩ := x
  obtain ⟨a, vs, rfl, ha, hs⟩ := h.tupE
  rw [ks_of _ _ hs] at ha
  exact ⟨a, ks, rfl, ha, z⟩
theorem RwDs.sm (x : RwDs M H vs) : SmDs M H vs := by
  obtain ⟨kss, h, z⟩ := x
  refine ⟨_, h, fun d hd => ?_⟩
  obtain ⟨ks, hk, rfl⟩ := List.mem_map.mp hd
  have := z ks hk
  unfold kT
  rw [sz_tup, ks_sz, dep_tup, ks_dep]
  omega
theorem SmDs.take (x : SmDs M H vs) (i : Nat) : SmDs M H (vs.take i) := by
  obtain ⟨ds, h, z⟩ := x
  refine ⟨ds.take i, ?_, fun d hd => z d (List.mem_of_mem_take hd)⟩
  refine IsDs.of_get (by rw [List.length_take, List.length_take, h.len]) fun j d v h1 h2 => ?_
  rw [List.getElem?_take] at h1 h2
  split at h1
  · rename_i hj
    rw [if_pos hj] at h2
    obtain ⟨v', e, hv⟩ := h.get h1
    rw [h2] at e
    cases e
    exact hv
  · cases h1
theorem SmDs.drop (x : SmDs M H vs) (i : Nat) : SmDs M H (vs.drop i) := by
  obtain ⟨ds, h, z⟩ := x
  exact ⟨ds.drop i, h.drop i, fun d hd => z d (List.mem_of_mem_drop hd)⟩
theorem SmDs.cut (x : SmDs M H vs) (lo hi : Option Int) : SmDs M H (cutV vs lo hi) := by
  unfold cutV
  exact (x.drop _).take _
theorem SmDs.fresh (x : SmDs M H vs) (h : H p = none) : SmDs (p :: M) H vs := let ⟨d, y, z⟩ := x; ⟨d, y.fresh h, z⟩
end
theorem SmDs.lst {M : List Addr} {H : Hp} {vs : List V} {l : Addr} (x : SmDs M H vs) (h : H l = some (.lst vs)) (hl : l ∉ M) (hz : vs.length ≤ 90000) : ∃ d, Is M H d (.ref l) ∧ sz d ≤ 1000000 ∧ dep d ≤ 4 := by
  obtain ⟨ds, hs, zs⟩ := x
  have := hs.len
  have h1 := szL_le (k := 10) (fun d hd => (zs d hd).1)
  have h2 := depL_le (k := 3) (fun d hd => (zs d hd).2)
  exact ⟨.list ds, Is.lst h hl hs, by rw [sz_lst]; omega, by rw [dep_lst]; omega⟩
end LL

set_option Elab.async false
set_option linter.all false
set_option maxRecDepth 100000
set_option maxHeartbeats 4000000
/-! set(list of ints), sorted of a set of ints, of any size below 4,095 -/
namespace LL
open PySem PySem.Spec PyProof.Rows L2
section
variable {P : Program} {w : World} {A : Around} {E : Value → Shared → Prop} {s : Shared}
set_option maxHeartbeats 3200000 in
theorem call_set_listI {l : Addr} {items : Array Value} (ns : List Int) {Q : Value → Shared → Prop} (hh : A.handled = none) (hl : s.heap.IsList l items) (hit : IntsAre items.toList ns) (hb : ns.length + 1 < scanBound)
    (h : ∀ (h' : Heap) (tk c : Nat), SetR w h' s.heap.objs.size (fun j => decide (j ∈ ns)) c → c ≤ ns.length → (∀ b o, s.heap.get? b = some o → h'.get? b = some o) → Q (.ref s.heap.objs.size) { s with heap := h', toks := tk }) :
    wpAny (model P w) A (call (.type "set") [.ref l]) Q E s := by
  have hisz : items.size = ns.length := by
    have q := IntsAre.length hit
    rw [Array.length_toList] at q
    exact q
  obtain ⟨c, tl, hmro⟩ := F.called_set.mro
  have hmade := F.called_set.made
  have hsub := F.called_set.sub
  refine wpAny_call (codeAny_of_tree ?_)
  show wpAny _ _ (callAny (.type "set") _) _ _ _
  refine wpAny_pure ⟨Code.quiet_builtin _ (by decide +kernel), codeAny_builtin F.entry_type_call ?_⟩
  rw [Around.under_plain (weight_type_call_type "set" [.ref l] []) rfl]
  have h1 := F.called_set.notType
  have h2 := F.called_set.canCreate
  have hct := F.typeCall_set_1 (.ref l)
  repeat (any_goals (first | assumption | wp_step))

  refine codeAny_mono (code_set_led1 (.ref l) (E := E) (Q₁ := fun obj s₁ => obj = .ref s.heap.objs.size ∧ s₁ = { s with heap := s.heap.push { cls := .type "set", dict := none, data := .set #[] 0 (.fresh 0 0 (!w.params.followText "set-order")) } }) ⟨rfl, rfl⟩) fun r s₁ hr => ?_
  cases r with
  | error e => exact hr
  | ok fl =>
    cases fl with
    | ret obj =>
      obtain ⟨rfl, rfl⟩ := hr
      have hS : (s.heap.push { cls := .type "set", dict := none, data := .set #[] 0 (.fresh 0 0 (!w.params.followText "set-order")) }).get? s.heap.objs.size = some { cls := .type "set", dict := none, data := .set #[] 0 (.fresh 0 0 (!w.params.followText "set-order")) } := Heap.get?_push_size _ rfl
      have hT : Shared.TypeIs { s with heap := s.heap.push { cls := .type "set", dict := none, data := .set #[] 0 (.fresh 0 0 (!w.params.followText "set-order")) } } (.ref s.heap.objs.size) "set" := ⟨_, hS, rfl⟩
      have hli := F.called_set.init.lookup
      have hbi := F.called_set.init.bind (.ref s.heap.objs.size)
      repeat (any_goals (first | assumption | wp_step))

      refine codeAny_mono (codeAny_call_builtin (R := wants (fun r s₂ => r = .none ∧ ∃ h' tk c, s₂ = { s with heap := h', toks := tk } ∧ SetR w h' s.heap.objs.size (fun j => decide (j ∈ ns)) c ∧ c ≤ ns.length ∧
          (∀ b o, s.heap.get? b = some o → h'.get? b = some o)) E) F.called_set.init.plain F.entry_set_init (check_set_init_1 hT ?_)) fun r₂ s₂ hr₂ => ?_
      · obtain ⟨ol, hol, hcl, nl, hdl⟩ := hl
        obtain ⟨ocls, odict, odata, oslots⟩ := ol
        simp only at hcl hdl
        subst hcl; subst hdl
        have hol' : (s.heap.push { cls := .type "set", dict := none, data := .set #[] 0 (.fresh 0 0 (!w.params.followText "set-order")) }).get? l = some { cls := .type "list", dict := odict, data := .seq items nl, slots := oslots } := Heap.get?_push_of_some _ hol
        have hsls := F.sub_list_set
        have hslf := F.sub_list_frozenset
        have hne : (Value.type "list" == Value.type "dict") = false := by decide
        have hl1 : (s.heap.push { cls := .type "set", dict := none, data := .set #[] 0 (.fresh 0 0 (!w.params.followText "set-order")) }).IsList l items := ⟨_, hol', rfl, nl, rfl⟩
        unfold Builtin.«set.__init__» noKeywords Builtin.Frozenset.updateFrom
        generalize hPI : pyIter = PI
        wp_walk
        subst hPI

        refine wpAny_pyIter_list hl1 ?_
        refine wpAny_bind (wpAny_runValue ?_)
        have hlS : l < s.heap.objs.size := Heap.lt_size hol
        have hh3 : A.in1.in1.in1.handled = none := by simp [hh]
        have hneI : l ≠ (s.heap.push { cls := .type "set", dict := none, data := .set #[] 0 (.fresh 0 0 (!w.params.followText "set-order")) }).objs.size := by
          rw [Heap.size_push]; exact Nat.ne_of_lt (Nat.lt_succ_of_lt hlS)
        have hSf : s.heap.objs.size ∉ [(s.heap.push { cls := .type "set", dict := none, data := .set #[] 0 (.fresh 0 0 (!w.params.followText "set-order")) }).objs.size, l] := by
          rw [Heap.size_push]; simp only [List.mem_cons, List.mem_singleton, List.not_mem_nil, or_false, not_or]
          exact ⟨Nat.ne_of_lt (Nat.lt_succ_self _), Nat.ne_of_gt hlS⟩
        have hval : ∀ (i : Nat) (v : Value), items[i]? = some v → ∃ k t, ns[i]? = some k ∧ v = .int k t := fun i v hv => by
          have hi : i < ns.length := by rw [← hisz]; exact (Array.getElem?_eq_some_iff.mp hv).1
          obtain ⟨t, e⟩ := PyProof.Rows.IntsAre.int_at hit i v (by rw [Array.getElem?_toList]; exact hv)
          refine ⟨ns[i], t, List.getElem?_eq_getElem hi, ?_⟩
          rw [e, List.getD_eq_getElem?_getD, List.getElem?_eq_getElem hi] <;> rfl
        refine set_update_ints ((Walks.list hh3 _ l hneI items).toS) s.heap.objs.size
          hSf ns hisz hb hval (items.size - 0) 0 _ (by omega) (Nat.zero_le _)
          ⟨⟨_, Heap.get?_push_size _ rfl, rfl, rfl⟩, (hl1.push _)⟩ ?hS0 ?hR
        case hS0 =>
          have hget : ((s.heap.push { cls := .type "set", dict := none, data := .set #[] 0 (.fresh 0 0 (!w.params.followText "set-order")) }).push { cls := .type "list_iterator", data := .fields #[.ref l, .int 0 0] }).get? s.heap.objs.size
              = some { cls := .type "set", dict := none, data := .set #[] 0 (.fresh 0 0 (!w.params.followText "set-order")) } := Heap.get?_push_of_some _ hS
          exact ⟨0, Nat.le_refl 0, setR_new_at hget⟩
        case hR =>
          intro s' c' hm hc' hS'
          obtain ⟨h', g2, d', tk', os'⟩ := s'
          have eg : g2 = s.gens := hm.gens
          have ed : d' = s.drawn := hm.drawn
          have eo : os' = s.os := hm.os
          subst eg; subst ed; subst eo
          show wpAny _ _ _ _ _ _
          refine wpAny_pure ?_
          show wpAny _ _ (ret Value.none) _ _ _
          rw [hisz] at hc'
          refine wpAny_pure ⟨rfl, h', tk', c', rfl, hS', hc', fun b o e => ?_⟩
          have hb0 : b < s.heap.objs.size := Heap.lt_size e
          have hb1 : b ≠ s.heap.objs.size := Nat.ne_of_lt hb0
          have hb2 : b ≠ (s.heap.push { cls := .type "set", dict := none, data := .set #[] 0 (.fresh 0 0 (!w.params.followText "set-order")) }).objs.size := by
            rw [Heap.size_push]; exact Nat.ne_of_lt (Nat.lt_succ_of_lt hb0)
          exact hm.heap b o (by simp only [List.mem_cons, List.mem_singleton, List.not_mem_nil, or_false, not_or]; exact ⟨hb1, hb2⟩) (Heap.get?_push_of_some _ (Heap.get?_push_of_some _ e))

      · cases r₂ with
        | error e => exact hr₂
        | ok fl₂ =>
          cases fl₂ with
          | ret r =>
            obtain ⟨rfl, h', tk, c', rfl, hS', hc', hk'⟩ := hr₂
            repeat (any_goals (first | assumption | wp_step))
            exact h _ _ _ hS' hc' hk'
          | _ => exact hr₂.elim
    | _ => exact hr.elim
theorem sorted_setB {a : Addr} {S : Int → Bool} {n : Nat} {Q : Value → Shared → Prop} (R : SetR w s.heap a S n) (hh : A.handled = none)
    (hQ : ∀ s' p (out : Array Value) (c : Nat) (ns : List Int), (∀ b o, s.heap.get? b = some o → s'.heap.get? b = some o) → s'.gens = s.gens → s'.os = s.os → s.heap.objs.size ≤ p →
      s'.heap.get? p = some (seqObj "list" out c) → IntsAre out.toList ns → ns.Pairwise (· < ·) → (∀ k, k ∈ ns ↔ S k = true) → ns.length = n → n < scanBound → Q (.ref p) s') :
    wpAny (model P w) A (call (.builtin "sorted") [.ref a]) Q E s := by
  obtain ⟨o, es, ep, t, ho, hex, hd, g, nd, hm, hb, hf, hn, hr, hl⟩ := R
  refine Calls.call_function_entry kind_sorted plain_sorted entry_sorted (args_sorted1 _) ?_
  unfold Builtin.«sorted»
  refine wpAny_bind (m := checkCount "sorted" 1 1 _) (wpAny_pure ?_)
  refine wpAny_bind (collect_set (A := A.in1) hh ⟨o, ho, hex.1, hd⟩ hf hb hr hl fun s1 vs k1 hz g1 o1 pm => ?_)
  have hvl : vs.length = n := by rw [pm.length_eq, List.length_map, Array.length_toList]; exact hn
  have hI : IntsAre vs (vs.map Builtin.Re.reRawOf) := ints_of vs fun v hv => by
    obtain ⟨e, he, q⟩ := List.mem_map.mp (pm.mem_iff.mp hv)
    obtain ⟨k, tk, h1, _⟩ := g e he
    exact ⟨k, tk, by rw [← q]; exact h1⟩
  have pk : (vs.map Builtin.Re.reRawOf).Perm (es.toList.map keyOf) := by
    have q := pm.map Builtin.Re.reRawOf
    rw [List.map_map] at q
    exact q
  have hnb : n < scanBound := by rw [← hn]; exact hb
  have hvz : vs.length ≤ sizeLine := by rw [hvl, sizeLine_eq]; unfold scanBound at hnb; omega
  refine wpAny_bind (wpAny_newList ?_ hvz)
  have hoL : (s1.heap.push (seqObj "list" vs.toArray 0)).get? s1.heap.objs.size = some (seqObj "list" vs.toArray 0) := Heap.get?_push_size _ rfl
  refine wpAny_bind (wpAny_holding (wpAny_call_entry slot_list_sort ⟨_, hoL, rfl⟩ entry_list_sort (SrtO.list_sort_ord SrtO.swo_int hoL hvz (fun h2 => SrtO.ints_sortable hI h2) fun out h1 h2 => ⟨_, rfl, ?_⟩) (args_list_sort _)))
  obtain ⟨a1, a2, a3⟩ := SrtO.ints_out hI h1 h2
  obtain ⟨c, hc⟩ := sortedHeap_at (vs := vs) (out := out.toArray) hoL
  have pn : (out.map SrtO.iv).Perm (es.toList.map keyOf) := a2.trans pk
  refine wpAny_pure ⟨_, rfl, hQ _ s1.heap.objs.size out.toArray c _ (fun b u e => ?_) g1 o1 hz hc (by simpa using a1) (lt_of_le_nodup _ a3 (pn.nodup_iff.mpr nd)) (fun k => by rw [pn.mem_iff, ← hm k]) ?_ hnb⟩
  · have q := k1 b u e
    have hlt := Heap.lt_size q
    show (sortedHeap (s1.heap.push (seqObj "list" vs.toArray 0)) s1.heap.objs.size vs out.toArray).get? b = some u
    rw [sortedHeap_old (Nat.ne_of_lt hlt) (by rw [size_push']; exact Nat.lt_succ_of_lt hlt)]
    exact Heap.get?_push_of_some _ q
  · rw [pn.length_eq, List.length_map, Array.length_toList]; exact hn
end
section
variable {X : Cx}
/-- set(xs), xs a list of ints -/
def rSetL (K : PySem.W.Frag) (w : World) : List V → Hp → VK → Prop := fun vs H Q => ∃ (a : Addr) (ns : List Int), vs = [V.ref a] ∧ (SqL K H a (ns.map V.int) ∨ SqT K H a (ns.map V.int)) ∧ ns.length ≤ 4000 ∧
  ∀ p n, n ≤ ns.length → H p = none → Q (.ref p) (upd H p (SetO w p (fun j => decide (j ∈ ns)) n))
theorem cr_setL (hc : X.calm = true) : CallR X (.type "set") (rSetL X.K X.w) := by
  intro pins s σ H vs us Q I r h
  obtain ⟨a, ns, rfl, hs, hz, q⟩ := h
  rw [Vals.ref1 r]
  rcases hs with hs | hs
  · obtain ⟨its, rv, hl, _⟩ := I.list hs
    refine call_set_listI ns (I.ok.hd hc) hl.isList (by simpa using rv.ints) (by unfold scanBound; omega) fun h' tk c R hc' k => ?_
    exact ⟨.ref _, upd H s.heap.objs.size (SetO X.w s.heap.objs.size (fun j => decide (j ∈ ns)) c), I.laid (t' := tk) k (Nat.le_refl _) (setO_new R), rfl, q _ _ hc' (I.hok.fresh (Nat.le_refl _))⟩
  · obtain ⟨its, rv, hl, _⟩ := I.tuple hs
    refine call_set_tupI ns (I.ok.hd hc) hl (by simpa using rv.ints) (by unfold scanBound; omega) fun h' tk c R hc' k => ?_
    exact ⟨.ref _, upd H s.heap.objs.size (SetO X.w s.heap.objs.size (fun j => decide (j ∈ ns)) c), I.laid (t' := tk) k (Nat.le_refl _) (setO_new R), rfl, q _ _ hc' (I.hok.fresh (Nat.le_refl _))⟩
/-- sorted(a set of ints) -/
def rSortS (w : World) : List V → Hp → VK → Prop := fun vs H Q => ∃ (a : Addr) (S : Int → Bool) (n : Nat), vs = [V.ref a] ∧ H a = some (SetO w a S n) ∧
  ∀ (ns : List Int) (p : Addr), ns.Pairwise (· < ·) → (∀ k : Int, k ∈ ns ↔ S k = true) → ns.length = n → H p = none → Q (.ref p) (upd H p (.lst (ns.map V.int)))
theorem cr_sortS (hc : X.calm = true) : CallR X (.builtin "sorted") (rSortS X.w) := by
  intro pins s σ H vs us Q I r h
  obtain ⟨a, S, n, rfl, ha, q⟩ := h
  have R := setO_get I ha
  rw [Vals.ref1 r]
  refine sorted_setB R (I.ok.hd hc) fun s' p out c ns k g o hp hg hi hs hm hl hb => ?_
  have hlen : (ns.map V.int).length ≤ sizeLine := by rw [List.length_map, hl, sizeLine_eq]; unfold scanBound at hb; omega
  have hn : H p = none := I.hok.fresh hp
  have J : Inv X pins σ (upd H p (.lst (ns.map V.int))) { s with heap := s'.heap, gens := s'.gens, drawn := s'.drawn, toks := s'.toks } :=
    I.call (ch := []) (Un.laid k hp hn) (I.hok.laid k hp ⟨hlen, out.toList, c, vals_of_ints hi, hg⟩) (by rw [g]; exact I.bare) (fun _ z => nomatch z)
  have e : s' = { s with heap := s'.heap, gens := s'.gens, drawn := s'.drawn, toks := s'.toks } := by
    cases s'
    cases s
    cases o
    rfl
  rw [e]
  exact ⟨.ref p, _, J, rfl, q ns p hs hm hl hn⟩
end
/-! ### the sorted list of the members -/
def insI (x : Int) : List Int → List Int
  | [] => [x]
  | y :: l => if x < y then x :: y :: l else if x = y then y :: l else y :: insI x l
/-- the ascending list of the members of xs -/
def srtU : List Int → List Int
  | [] => []
  | x :: l => insI x (srtU l)
theorem insI_mem {x k : Int} : ∀ {l : List Int}, k ∈ insI x l ↔ k = x ∨ k ∈ l
  | [] => by simp [insI]
  | y :: l => by
    unfold insI
    split
    · simp
    · split
      · rename_i h; subst h; simp
      · simp only [List.mem_cons, insI_mem (l := l)]
        constructor
        · rintro (h | h | h) <;> simp [h]
        · rintro (h | h | h) <;> simp [h]
theorem insI_asc {x : Int} : ∀ {l : List Int}, l.Pairwise (· < ·) → (insI x l).Pairwise (· < ·)
  | [], _ => by simp [insI]
  | y :: l, h => by
    obtain ⟨h1, h2⟩ := List.pairwise_cons.mp h
    unfold insI
    split
    · rename_i c
      exact List.pairwise_cons.mpr ⟨fun z hz => by
        rcases List.mem_cons.mp hz with e | e
        · rw [e]; exact c
        · have := h1 z e; omega, h⟩
    · split
      · exact h
      · refine List.pairwise_cons.mpr ⟨fun z hz => ?_, insI_asc h2⟩
        rcases insI_mem.mp hz with e | e
        · subst e; omega
        · exact h1 z e
theorem srtU_mem {k : Int} : ∀ {l : List Int}, k ∈ srtU l ↔ k ∈ l
  | [] => by simp [srtU]
  | y :: l => by
    unfold srtU
    rw [insI_mem, srtU_mem (l := l)]
    simp
theorem srtU_asc : ∀ l : List Int, (srtU l).Pairwise (· < ·)
  | [] => List.Pairwise.nil
  | y :: l => by
    unfold srtU
    exact insI_asc (srtU_asc l)
theorem asc_ext : ∀ {l m : List Int}, l.Pairwise (· < ·) → m.Pairwise (· < ·) → (∀ k, k ∈ l ↔ k ∈ m) → l = m
  | [], [], _, _, _ => rfl
  | [], y :: m, _, _, e => absurd ((e y).mpr List.mem_cons_self) (by simp)
  | x :: l, [], _, _, e => absurd ((e x).mp List.mem_cons_self) (by simp)
  | x :: l, y :: m, h1, h2, e => by
    obtain ⟨a1, a2⟩ := List.pairwise_cons.mp h1
    obtain ⟨b1, b2⟩ := List.pairwise_cons.mp h2
    have exy : x = y := by
      rcases List.mem_cons.mp ((e x).mp List.mem_cons_self) with c | c
      · exact c
      · rcases List.mem_cons.mp ((e y).mpr List.mem_cons_self) with d | d
        · exact d.symm
        · have := b1 x c; have := a1 y d; omega
    subst exy
    rw [asc_ext a2 b2 fun k => ?_]
    constructor
    · intro hk
      rcases List.mem_cons.mp ((e k).mp (List.mem_cons_of_mem _ hk)) with c | c
      · have := a1 k hk; omega
      · exact c
    · intro hk
      rcases List.mem_cons.mp ((e k).mpr (List.mem_cons_of_mem _ hk)) with c | c
      · have := b1 k hk; omega
      · exact c
theorem srtU_len : ∀ l : List Int, (srtU l).length ≤ l.length
  | [] => Nat.le_refl _
  | y :: l => by
    have ins : ∀ (x : Int) (m : List Int), (insI x m).length ≤ m.length + 1 := by
      intro x m
      induction m with
      | nil => simp [insI]
      | cons z m ih =>
        unfold insI
        split
        · simp
        · split
          · simp
          · simp only [List.length_cons]; omega
    unfold srtU
    have := ins y (srtU l)
    have := srtU_len l
    simp only [List.length_cons]
    omega
theorem srtU_of {l ns : List Int} (h : ns.Pairwise (· < ·)) (e : ∀ k, k ∈ ns ↔ decide (k ∈ l) = true) : ns = srtU l :=
  asc_ext h (srtU_asc l) fun k => by rw [e k, srtU_mem]; simp
end LL

set_option Elab.async false
set_option linter.all false
set_option maxRecDepth 100000
set_option maxHeartbeats 400000
/-! LClm: claims and their readings, in plain words -/
namespace LL
open PySem PySem.Spec PyProof.Rows L2
/-! ### rows -/
variable [KW]
def nD (rows : List Nat) : List PyData := rows.map fun r => .int (r : Nat)
def intD : PyData → Int
  | .int i => i
  | _ => 0
def risB (l : List Int) : Bool := (List.range (l.length - 1)).all fun i => decide (l.getD i 0 < l.getD (i + 1) 0)
/-- a tuple of rising rows below n -/
def rowsB (n : Int) : PyData → Bool
  | .tuple ds => ds.all (isNum 0 (n - 1)) && risB (ds.map intD)
  | _ => false
theorem nD_int (rows : List Nat) : (nD rows).map intD = rows.map fun r => ((r : Nat) : Int) := by
  unfold nD
  rw [List.map_map]
  rfl
theorem all_nat {n : Int} : ∀ {ds : List PyData}, ds.all (isNum 0 (n - 1)) = true → ∃ rows : List Nat, ds = nD rows ∧ ∀ r ∈ rows, (r : Int) < n
  | [], _ => ⟨[], rfl, by simp⟩
  | d :: ds, h => by
    rw [List.all_cons, Bool.and_eq_true] at h
    obtain ⟨i, rfl, h1, h2⟩ := num_nat h.1 (by decide)
    obtain ⟨rows, rfl, h3⟩ := all_nat h.2
    refine ⟨i :: rows, rfl, fun r hr => ?_⟩
    rcases List.mem_cons.mp hr with e | e
    · subst e; omega
    · exact h3 r e
theorem ris_pair : ∀ {l : List Int}, risB l = true → l.Pairwise (· < ·)
  | [], _ => List.Pairwise.nil
  | [x], _ => by simp
  | x :: y :: l, h => by
    have h' := List.all_eq_true.mp h
    have h0 : x < y := by
      have := h' 0 (List.mem_range.mpr (by simp))
      simpa using this
    have ht : risB (y :: l) = true := List.all_eq_true.mpr fun i hi => by
      have hi := List.mem_range.mp hi
      have := h' (i + 1) (List.mem_range.mpr (by simp only [List.length_cons] at *; omega))
      simpa using this
    have ih := ris_pair ht
    refine List.pairwise_cons.mpr ⟨fun z hz => ?_, ih⟩
    rcases List.mem_cons.mp hz with e | e
    · rw [e]; exact h0
    · have := (List.pairwise_cons.mp ih).1 z e
      omega
theorem rows_nat {n : Int} {d : PyData} (h : rowsB n d = true) : ∃ rows : List Nat, d = .tuple (nD rows) ∧ (∀ r ∈ rows, (r : Int) < n) ∧ (rows.map fun r => ((r : Nat) : Int)).Pairwise (· < ·) := by
  cases d with
  | tuple ds =>
    have h : (ds.all (isNum 0 (n - 1)) && risB (ds.map intD)) = true := h
    rw [Bool.and_eq_true] at h
    obtain ⟨rows, rfl, h2⟩ := all_nat h.1
    refine ⟨rows, rfl, h2, ?_⟩
    rw [← nD_int]
    exact ris_pair h.2
  | _ => cases h
def nVl (rows : List Nat) : List V := rows.map fun r => .int (r : Nat)
theorem nD_is {M : List Addr} {H : Hp} : ∀ rows : List Nat, IsDs M H (nD rows) (nVl rows)
  | [] => .nil
  | r :: rows => .cons Is.int (nD_is rows)
theorem nD_of {M : List Addr} {H : Hp} : ∀ {rows : List Nat} {vs : List V}, IsDs M H (nD rows) vs → vs = nVl rows
  | [], vs, h => by
    unfold nD at h
    rw [List.map_nil] at h
    unfold IsDs at h
    exact h
  | r :: rows, vs, h => by
    unfold nD at h
    rw [List.map_cons] at h
    unfold IsDs at h
    obtain ⟨v, ws, rfl, h1, h2⟩ := h
    cases h1.intE
    rw [nD_of (rows := rows) h2]
    rfl
theorem nD_sz (rows : List Nat) : szL (nD rows) = rows.length := by
  unfold nD
  induction rows with
  | nil => exact szL_nil
  | cons r rows ih => rw [List.map_cons, szL_cons, ih, List.length_cons, sz1_int]; omega
theorem nD_dep (rows : List Nat) : depL (nD rows) = 0 := by
  unfold nD
  induction rows with
  | nil => exact depL_nil
  | cons r rows ih => rw [List.map_cons, depL_cons, ih, dep1_int]; rfl
/-! ### ascending -/
def srtN (rows : List Nat) : List Nat := (srtU (rows.map fun r => ((r : Nat) : Int))).map Int.toNat
theorem srtN_cast (rows : List Nat) : (srtN rows).map (fun r => ((r : Nat) : Int)) = srtU (rows.map fun r => ((r : Nat) : Int)) := by
  unfold srtN
  rw [List.map_map]
  have : ∀ x ∈ srtU (rows.map fun r => ((r : Nat) : Int)), ((fun r => ((r : Nat) : Int)) ∘ Int.toNat) x = x := fun x hx => by
    obtain ⟨r, _, rfl⟩ := List.mem_map.mp (srtU_mem.mp hx)
    simp
  exact (List.map_congr_left this).trans (List.map_id _)
theorem srtN_mem {rows : List Nat} {k : Nat} : k ∈ srtN rows ↔ k ∈ rows := by
  have e := srtN_cast rows
  have cm : ∀ l : List Nat, k ∈ l ↔ ((k : Nat) : Int) ∈ l.map (fun r => ((r : Nat) : Int)) := fun l => by
    constructor
    · exact fun h => List.mem_map.mpr ⟨k, h, rfl⟩
    · intro h
      obtain ⟨a, ha, e⟩ := List.mem_map.mp h
      rw [← Int.ofNat.inj e]
      exact ha
  rw [cm (srtN rows), e, srtU_mem, ← cm]
theorem srtN_len (rows : List Nat) : (srtN rows).length ≤ rows.length := by
  unfold srtN
  rw [List.length_map]
  have := srtU_len (rows.map fun r => ((r : Nat) : Int))
  rw [List.length_map] at this
  exact this
theorem nV_srt (rows : List Nat) : (srtU (rows.map fun r => ((r : Nat) : Int))).map V.int = nVl (srtN rows) := by
  rw [← srtN_cast]
  unfold nVl
  rw [List.map_map]
  rfl
/-! ### the readings -/
inductive R7
  | neg | den | box | dou | mk | ms | mg
  deriving DecidableEq
def R7.str : R7 → Str
  | .neg => "negative" | .den => "denied" | .box => "boxed" | .dou => "doubled" | .mk => "modal k" | .ms => "modal s4" | .mg => "modal gl"
def r7Of (x : Str) : Option R7 :=
  if x = "negative" then some .neg else if x = "denied" then some .den else if x = "boxed" then some .box else if x = "doubled" then some .dou else if x = "modal k" then some .mk else if x = "modal s4" then some .ms else if x = "modal gl" then some .mg else none
def isR7 : PyData → Option R7
  | .str x => r7Of x
  | _ => none
def R7.lo : R7 → Str
  | .box => "intuit" | .dou => "intuit" | _ => "classical"
def R7.hi : R7 → Str
  | .neg => "intuit" | .den => "intuit" | .box => "s4" | .dou => "gl" | .mk => "k" | .ms => "s4" | .mg => "gl"
/-- the rows denied, one after the other -/
def denyL : List Nd → List Nat → List Nat × List Nd
  | ns, [] => ([], ns)
  | ns, r :: rs => ((denyF ns r).1 :: (denyL (denyF ns r).2 rs).1, (denyL (denyF ns r).2 rs).2)
/-- rows grown by a reading -/
def growF (w : W3) (ns : List Nd) (rows : List Nat) : List Nd × (Nat → Nat) := readF w ns (belowF ns rows) ns (fun _ => 0)
def newC (r : R7) (ns : List Nd) (rows : List Nat) : List Nd × (Nat → Nat) :=
  match r with
  | .neg => growF .neg ns rows
  | .box => growF .box ns rows
  | .dou => ((growF .dou (growF .box ns rows).1 (rows.map (growF .box ns rows).2)).1, fun i => (growF .dou (growF .box ns rows).1 (rows.map (growF .box ns rows).2)).2 ((growF .box ns rows).2 i))
  | _ => (ns, fun i => i)
def R7.denies : R7 → Bool
  | .neg => true
  | .den => true
  | _ => false
/-- the read claim -/
def readC (r : R7) (ns : List Nd) (le ri : List Nat) : List Nd × List Nat × List Nat :=
  if r.denies then ((denyL (newC r ns (le ++ ri)).1 (ri.map (newC r ns (le ++ ri)).2)).2, srtN (le.map (newC r ns (le ++ ri)).2 ++ (denyL (newC r ns (le ++ ri)).1 (ri.map (newC r ns (le ++ ri)).2)).1), [])
  else ((newC r ns (le ++ ri)).1, srtN (le.map (newC r ns (le ++ ri)).2), srtN (ri.map (newC r ns (le ++ ri)).2))
/-! ### claims as data -/
def clD (ns : List Nd) (l r : List Nat) : PyData := .tuple [.list (ns.map Nd.data), .tuple [], .tuple (nD l), .tuple (nD r)]
def emptyT : PyData → Bool
  | .tuple [] => true
  | _ => false
/-- the first error of a claim -/
def claimW : PyData → Option (Str × PyData)
  | .tuple [sh, th, le, ri] =>
    match wrongD 5000 false sh with
    | some i => some ("BadSheet", .int i)
    | none => if (rowsB (lenD sh) th && emptyT th) = false then some ("BadClaim", .str "theory") else if rowsB (lenD sh) le = false then some ("BadClaim", .str "left") else if rowsB (lenD sh) ri = false then some ("BadClaim", .str "right") else none
  | _ => some ("BadClaim", .str "claim")
/-- a right claim -/
structure RtC (ns : List Nd) (l r : List Nat) : Prop where
  ok : okSheet false ns
  hl : ns.length ≤ 5000
  bl : ∀ i ∈ l, i < ns.length
  br : ∀ i ∈ r, i < ns.length
  al : (l.map fun r => ((r : Nat) : Int)).Pairwise (· < ·)
  ar : (r.map fun r => ((r : Nat) : Int)).Pairwise (· < ·)
/-- what is due -/
inductive DueC (rd cl : PyData) : PyData → Prop
  | value (h : isR7 rd = none) : DueC rd cl (.tuple [.str "BadValue", .str "reading"])
  | wrong (r : R7) (h : isR7 rd = some r) (c : Str) (x : PyData) (h2 : claimW cl = some (c, x)) : DueC rd cl (.tuple [.str c, x])
  | told (r : R7) (h : isR7 rd = some r) (ns : List Nd) (le ri : List Nat) (hc : cl = clD ns le ri) (h2 : claimW cl = none) (ok : RtC ns le ri) : DueC rd cl (.tuple [.str "told", clD (readC r ns le ri).1 (readC r ns le ri).2.1 (readC r ns le ri).2.2])
end LL

set_option Elab.async false
set_option linter.all false
set_option maxRecDepth 100000
set_option maxHeartbeats 400000
/-! LCmp: comprehensions over range(lo, hi) -/
namespace LL
open PySem PySem.Spec PyProof.Rows L2
section
variable [KW]
variable {K : PySem.W.Frag} {a D : Addr} {xs : List V} {g : TG} {te : TE} {vs : List Nat} {σ : L2.St} {H1 : Hp} {Qd : Hp → Prop}
theorem lc_mapRl {lo : Int} {n : Nat} (ys : Nat → V) (hD : H1 D = none) (hz : n ≤ 1000000)
    (hs : ∀ (i : Nat) (H : Hp) (acc : List V) (R : V → Hp → Prop), i < n → Adv [] H1 H → H D = some (.lst acc) → (∀ H4, H4 D = some (.lst acc) → Adv [] H1 H4 → R (ys i) H4) → g (.int (lo + (i : Nat))) (wipe σ vs) H fun σ2 H2 => wipe σ2 vs = wipe σ vs ∧ te σ2 H2 R)
    (hd : ∀ H, Adv [] H1 H → H D = some (.lst ((List.range n).map ys)) → Qd H) :
    ∃ W : Nat → Nat → Hp → Prop, (∃ m, W 0 m (upd H1 D (.lst []))) ∧ ∀ i m H, W i m H →
      ((Itr lo n).stop i H ∧ Qd H) ∨ ((Itr lo n).go i H ∧ ∃ Nx : Hp → Prop, (∀ H', Nx H' → ∃ m', m' < m ∧ W (i + 1) m' H') ∧ ∀ x H', (Itr lo n).yld i H x H' → g x (wipe σ vs) H' fun σ2 H2 => wipe σ2 vs = wipe σ vs ∧ tYes σ2 H2 fun b H3 =>
        if b = true then te σ2 H3 fun y H4 => ∃ acc, H4 D = some (.lst acc) ∧ acc.length < sizeLine ∧ Nx (upd H4 D (.lst (acc ++ [y]))) else Nx H3) := by
  refine lc_range (lo := lo) (n := n) (tt := tYes) (fun i H => Adv [] H1 H ∧ H D = some (.lst ((List.range i).map ys))) ⟨Adv.new hD, upd_same⟩ (fun i H hi p => ?_) (fun H p => hd H p.1 p.2)
  refine hs i H _ (fun y H4 => ∃ acc, H4 D = some (.lst acc) ∧ acc.length < sizeLine ∧ Adv [] H1 (upd H4 D (.lst (acc ++ [y]))) ∧ (upd H4 D (.lst (acc ++ [y]))) D = some (.lst ((List.range (i + 1)).map ys))) hi p.1 p.2 (fun H4 e4 a4 => ⟨_, e4, ?_, Adv.mut a4 hD, ?_⟩)
  · rw [List.length_map, List.length_range, sizeLine_eq]
    omega
  · rw [upd_same, range_map_succ]
theorem lc_filtRl {lo : Int} {n : Nat} {tt : TT} (ys : Nat → V) (c : Nat → Bool) (hD : H1 D = none) (hz : n ≤ 1000000)
    (hs : ∀ (i : Nat) (H : Hp) (acc : List V) (R : V → Hp → Prop) (R0 : Hp → Prop), i < n → Adv [] H1 H → H D = some (.lst acc) → (c i = true → ∀ H4, H4 D = some (.lst acc) → Adv [] H1 H4 → R (ys i) H4) →
      (c i = false → ∀ H4, H4 D = some (.lst acc) → Adv [] H1 H4 → R0 H4) → g (.int (lo + (i : Nat))) (wipe σ vs) H fun σ2 H2 => wipe σ2 vs = wipe σ vs ∧ tt σ2 H2 fun b H3 => if b = true then te σ2 H3 R else R0 H3)
    (hd : ∀ H, Adv [] H1 H → H D = some (.lst (((List.range n).filter c).map ys)) → Qd H) :
    ∃ W : Nat → Nat → Hp → Prop, (∃ m, W 0 m (upd H1 D (.lst []))) ∧ ∀ i m H, W i m H →
      ((Itr lo n).stop i H ∧ Qd H) ∨ ((Itr lo n).go i H ∧ ∃ Nx : Hp → Prop, (∀ H', Nx H' → ∃ m', m' < m ∧ W (i + 1) m' H') ∧ ∀ x H', (Itr lo n).yld i H x H' → g x (wipe σ vs) H' fun σ2 H2 => wipe σ2 vs = wipe σ vs ∧ tt σ2 H2 fun b H3 =>
        if b = true then te σ2 H3 fun y H4 => ∃ acc, H4 D = some (.lst acc) ∧ acc.length < sizeLine ∧ Nx (upd H4 D (.lst (acc ++ [y]))) else Nx H3) := by
  refine lc_range (lo := lo) (n := n) (tt := tt) (fun i H => Adv [] H1 H ∧ H D = some (.lst (((List.range i).filter c).map ys))) ⟨Adv.new hD, upd_same⟩ (fun i H hi p => ?_) (fun H p => hd H p.1 p.2)
  refine hs i H _ (fun y H4 => ∃ acc, H4 D = some (.lst acc) ∧ acc.length < sizeLine ∧ Adv [] H1 (upd H4 D (.lst (acc ++ [y]))) ∧ (upd H4 D (.lst (acc ++ [y]))) D = some (.lst (((List.range (i + 1)).filter c).map ys)))
    (fun H3 => Adv [] H1 H3 ∧ H3 D = some (.lst (((List.range (i + 1)).filter c).map ys))) hi p.1 p.2 (fun hc H4 e4 a4 => ⟨_, e4, ?_, Adv.mut a4 hD, ?_⟩) (fun hc H4 e4 a4 => ⟨a4, ?_⟩)
  · have h1 := List.length_filter_le c (List.range i)
    rw [List.length_range] at h1
    rw [List.length_map, sizeLine_eq]
    omega
  · rw [upd_same, range_filt_succ, if_pos hc]
  · rw [e4, range_filt_succ, if_neg (by rw [hc]; decide), List.append_nil]
end
theorem filt0 {n : Nat} (c : Nat → Bool) (ys : Nat → V) : decide (V.int ((((List.range n).filter c).map ys).length : Nat) = V.int 0) = (List.range n).all fun i => !c i := by
  rw [List.length_map]
  cases e : (List.range n).all fun i => !c i with
  | true =>
    have : (List.range n).filter c = [] := by
      rw [List.filter_eq_nil_iff]
      intro i hi
      have := List.all_eq_true.mp e i hi
      simpa using this
    rw [this]
    rfl
  | false =>
    apply decide_eq_false
    intro z
    have z := V.int.inj z
    have z : ((List.range n).filter c).length = 0 := by omega
    have z := List.length_eq_zero_iff.mp z
    rw [List.filter_eq_nil_iff] at z
    have : (List.range n).all (fun i => !c i) = true := List.all_eq_true.mpr fun i hi => by
      have := z i hi
      simpa using this
    rw [e] at this
    cases this
end LL

set_option Elab.async false
set_option linter.all false
set_option maxRecDepth 100000
set_option maxHeartbeats 400000
/-! LSrt: sorted(a list of tuples of ints, none of them empty), of any length -/
namespace LL
open PySem PySem.Spec PyProof.Rows L2
def ltL : List Int → List Int → Bool
  | [], [] => false
  | [], _ :: _ => true
  | _ :: _, [] => false
  | x :: xs, y :: ys => if x = y then ltL xs ys else decide (x < y)
section
variable {prog : Program} {w : World} {A : Around} {s : Shared}
/-- a tuple of these ints -/
def TupI (h : Heap) (v : Value) (ns : List Int) : Prop := ∃ a o its n, v = Value.ref a ∧ h.get? a = some o ∧ o.cls = .type "tuple" ∧ o.data = .seq its n ∧ IntsAre its.toList ns
theorem TupI.keeps {h h' : Heap} {v : Value} {ns : List Int} (x : TupI h v ns) (k : ∀ b o, h.get? b = some o → o.cls = .type "tuple" → h'.get? b = some o) : TupI h' v ns := by
  obtain ⟨a, o, its, n, e, ho, hc, hd, hi⟩ := x
  exact ⟨a, o, its, n, e, k a o ho hc, hc, hd, hi⟩
end
/-- sorted(xs), tuples of ints that are not empty (an only one may be) -/
def rSortT : List V → Hp → VK → Prop := fun vs H Q => ∃ (a : Addr) (ys : List V) (k : V → List Int), vs = [V.ref a] ∧ H a = some (.lst ys) ∧ (∀ y ∈ ys, ∃ t, y = V.ref t ∧ H t = some (.tup ((k y).map V.int))) ∧ (2 ≤ ys.length → ∀ y ∈ ys, k y ≠ []) ∧
  ∀ zs p, zs.Perm ys → zs.Pairwise (fun x y => ltL (k y) (k x) = false) → H p = none → Q (.ref p) (upd H p (.lst zs))
end LL

set_option Elab.async false
set_option linter.all false
set_option maxRecDepth 100000
set_option maxHeartbeats 400000
/-! LTr: sets of numbers as bits; the least sets that cross each of some sets -/
namespace LL
open PySem PySem.Spec PyProof.Rows L2
def Sub (x y : Nat) : Prop := x &&& y = x
theorem Sub.iff {x y : Nat} : Sub x y ↔ ∀ i, x.testBit i = true → y.testBit i = true := by
  unfold Sub
  constructor
  · intro h i hx
    rw [← h, Nat.testBit_and, Bool.and_eq_true] at hx
    exact hx.2
  · intro h
    apply Nat.eq_of_testBit_eq
    intro i
    rw [Nat.testBit_and]
    cases e : x.testBit i with
    | false => rfl
    | true => rw [h i e]; rfl
theorem Sub.le {x y : Nat} (h : Sub x y) : x ≤ y := by
  have := Nat.and_le_right (n := x) (m := y)
  rw [h] at this
  exact this
theorem Sub.refl (x : Nat) : Sub x x := Nat.and_self x
theorem Sub.trans {x y z : Nat} (a : Sub x y) (b : Sub y z) : Sub x z := Sub.iff.mpr fun i h => Sub.iff.mp b i (Sub.iff.mp a i h)
theorem nz_iff {x : Nat} : x ≠ 0 ↔ ∃ i, x.testBit i = true := by
  constructor
  · intro h
    obtain ⟨i, hi⟩ := Nat.exists_testBit_ne_of_ne h
    rw [Nat.zero_testBit] at hi
    exact ⟨i, by simpa using hi⟩
  · rintro ⟨i, h⟩ e
    rw [e, Nat.zero_testBit] at h
    cases h
theorem and_nz {x y : Nat} : x &&& y ≠ 0 ↔ ∃ i, x.testBit i = true ∧ y.testBit i = true := by
  rw [nz_iff]
  constructor
  · rintro ⟨i, h⟩
    rw [Nat.testBit_and, Bool.and_eq_true] at h
    exact ⟨i, h⟩
  · rintro ⟨i, h1, h2⟩
    exact ⟨i, by rw [Nat.testBit_and, h1, h2]; rfl⟩
def Crs (T : List Nat) (x : Nat) : Prop := ∀ t ∈ T, x &&& t ≠ 0
theorem Crs.mono {T : List Nat} {x y : Nat} (h : Crs T x) (s : Sub x y) : Crs T y := fun t ht => by
  obtain ⟨i, h1, h2⟩ := and_nz.mp (h t ht)
  exact and_nz.mpr ⟨i, Sub.iff.mp s i h1, h2⟩
def Mn (p : Nat → Prop) (x : Nat) : Prop := p x ∧ ∀ y, p y → Sub y x → y = x
/-- the numbers below n that are in the bits -/
def bitsL (n x : Nat) : List Nat := (List.range n).filter fun i => x.testBit i
def bitsN (l : List Nat) : Nat := l.foldl (fun b k => b ||| 2 ^ k) 0
/-! ### minimal members of a list -/
def leastN (l : List Nat) : List Nat := (srtN l).filter fun one => ((srtN l).filter fun other => decide (other &&& one = other) && decide (other ≠ one)).length == 0
section
variable [KW]
theorem srtN_asc (l : List Nat) : (srtN l).Pairwise (· < ·) := by
  have h := srtU_asc (l.map fun r => ((r : Nat) : Int))
  rw [← srtN_cast, List.pairwise_map] at h
  exact h.imp fun h => by omega
end
/-! ### set by set -/
def newF (n : Nat) (F : List Nat) (t : Nat) : List Nat := F.flatMap fun one => if one &&& t ≠ 0 then [one] else (bitsL n t).map fun k => one ||| 2 ^ k
def crossF (n : Nat) (T : List Nat) : List Nat := T.foldl (fun F t => leastN (newF n F t)) [0]
/-! ### one by one -/
def leastStep (T : List Nat) (F : List Nat) (b : Nat) : List Nat := if ((T.all fun t => decide (b &&& t ≠ 0)) && !(F.any fun l => decide (b &&& l = l))) = true then F ++ [b] else F
def leastF (n : Nat) (T : List Nat) : List Nat := (List.range (2 ^ n)).foldl (leastStep T) []
/-! ### crossing what crosses -/
/-! ### how many they are -/
theorem nodup_lt : ∀ {N : Nat} {l : List Nat}, l.Nodup → (∀ x ∈ l, x < N) → l.length ≤ N
  | 0, l, _, h => by
    cases l with
    | nil => exact Nat.le_refl _
    | cons x l => exact absurd (h x List.mem_cons_self) (Nat.not_lt_zero x)
  | N + 1, l, d, h => by
    have := nodup_lt (N := N) (l := l.erase N) (d.erase N) fun x hx => by
      rw [d.mem_erase_iff] at hx
      have := h x hx.2
      omega
    have := List.le_length_erase (l := l) (a := N)
    omega
/-! ### as data -/
def bI (x : Nat) : List Int := (bitsL 12 x).map fun i => ((i : Nat) : Int)
def srtB (l : List Nat) : List Nat := l.mergeSort fun x y => !ltL (bI y) (bI x)
def setD (x : Nat) : PyData := .tuple (nD (bitsL 12 x))
def setsD (L : List Nat) : List PyData := (srtB L).map setD
end LL

set_option Elab.async false
set_option linter.all false
set_option maxRecDepth 100000
set_option maxHeartbeats 400000
/-! LBits: the bit operations of naturals -/
namespace LL
open PySem PySem.Spec PyProof.Rows L2
section
variable {σ : L2.St} {H : Hp} {Q : VK}
end
end LL

set_option Elab.async false
set_option linter.all false
set_option maxRecDepth 100000
set_option maxHeartbeats 400000
/-! LNatC: comprehensions over a list of rows -/
namespace LL
open PySem PySem.Spec PyProof.Rows L2
section
variable {X : Cx}
end
section
variable [KW]
variable {K : PySem.W.Frag} {a D : Addr} {T : List Nat} {g : TG} {te : TE} {tt : TT} {vs : List Nat} {σ : L2.St} {H1 : Hp} {Qd : Hp → Prop}
theorem nVl_gt {rows : List Nat} {i : Nat} {x : V} (h : (nVl rows)[i]? = some x) : ∃ k : Nat, rows[i]? = some k ∧ x = .int (k : Nat) := by
  unfold nVl at h
  rw [List.getElem?_map, Option.map_eq_some_iff] at h
  obtain ⟨k, hk, rfl⟩ := h
  exact ⟨k, hk, rfl⟩
theorem nVl_lth (rows : List Nat) : (nVl rows).length = rows.length := by unfold nVl; rw [List.length_map]
theorem take_snc {α : Type} {l : List α} {i : Nat} {k : α} (h : l[i]? = some k) : l.take (i + 1) = l.take i ++ [k] := by rw [List.take_add_one, h]; rfl
theorem lc_filtL (ys : Nat → V) (c : Nat → Bool) (hD : H1 D = none) (src : H1 a = some (.lst (nVl T))) (hz : T.length ≤ 1000000)
    (hs : ∀ (k : Nat) (H : Hp) (acc : List V) (R : V → Hp → Prop) (R0 : Hp → Prop), k ∈ T → Adv [] H1 H → H D = some (.lst acc) → (c k = true → ∀ H4, H4 D = some (.lst acc) → Adv [] H1 H4 → R (ys k) H4) →
      (c k = false → ∀ H4, H4 D = some (.lst acc) → Adv [] H1 H4 → R0 H4) → g (.int (k : Nat)) (wipe σ vs) H fun σ2 H2 => wipe σ2 vs = wipe σ vs ∧ tt σ2 H2 fun b H3 => if b = true then te σ2 H3 R else R0 H3)
    (hd : ∀ H, Adv [] H1 H → H D = some (.lst ((T.filter c).map ys)) → Qd H) :
    ∃ W : Nat → Nat → Hp → Prop, (∃ m, W 0 m (upd H1 D (.lst []))) ∧ ∀ i m H, W i m H →
      ((Itl K a).stop i H ∧ Qd H) ∨ ((Itl K a).go i H ∧ ∃ Nx : Hp → Prop, (∀ H', Nx H' → ∃ m', m' < m ∧ W (i + 1) m' H') ∧ ∀ x H', (Itl K a).yld i H x H' → g x (wipe σ vs) H' fun σ2 H2 => wipe σ2 vs = wipe σ vs ∧ tt σ2 H2 fun b H3 =>
        if b = true then te σ2 H3 fun y H4 => ∃ acc, H4 D = some (.lst acc) ∧ acc.length < sizeLine ∧ Nx (upd H4 D (.lst (acc ++ [y]))) else Nx H3) := by
  refine lc_list (K := K) (a := a) (xs := nVl T) (tt := tt) (fun i H => Adv [] H1 H ∧ H D = some (.lst (((T.take i).filter c).map ys))) ⟨Adv.new hD, upd_same⟩ (fun i H _ p => SqL.of (p.1.same _ _ src)) (fun i x H hx p => ?_) (fun H p => ?_)
  · obtain ⟨k, hk, rfl⟩ := nVl_gt hx
    refine hs k H _ (fun y H4 => ∃ acc, H4 D = some (.lst acc) ∧ acc.length < sizeLine ∧ Adv [] H1 (upd H4 D (.lst (acc ++ [y]))) ∧ (upd H4 D (.lst (acc ++ [y]))) D = some (.lst (((T.take (i + 1)).filter c).map ys)))
      (fun H3 => Adv [] H1 H3 ∧ H3 D = some (.lst (((T.take (i + 1)).filter c).map ys))) (List.mem_of_getElem? hk) p.1 p.2 (fun hc H4 e4 a4 => ⟨_, e4, ?_, Adv.mut a4 hD, ?_⟩) (fun hc H4 e4 a4 => ⟨a4, ?_⟩)
    · have h1 := List.length_filter_le c (T.take i)
      rw [List.length_take] at h1
      rw [List.length_map, sizeLine_eq]
      omega
    · rw [upd_same, take_snc hk, List.filter_append, List.map_append, List.filter_cons, if_pos hc]
      rfl
    · rw [e4, take_snc hk, List.filter_append, List.filter_cons, if_neg (by rw [hc]; decide), List.filter_nil, List.append_nil]
  · obtain ⟨p1, p2⟩ := p
    rw [nVl_lth, List.take_length] at p2
    exact hd H p1 p2
end
end LL

set_option Elab.async false
set_option linter.all false
set_option maxRecDepth 100000
set_option maxHeartbeats 400000
/-! LIsA: isinstance of the held error in its suite, its class not yet known -/
namespace LL
open PySem PySem.Spec PyProof.Rows L2 L2H
def rIsA (K : PySem.W.Frag) (cls : Value) (a : Addr) (d : Option Addr) : List V → Hp → VK → Prop := fun xs H Q => ∃ (D : Addr), cls = .ref D ∧ ExcC K D ∧ rIsP K D a d xs H Q
end LL

set_option Elab.async false
set_option linter.all false
set_option maxRecDepth 100000
set_option maxHeartbeats 400000
/-! LLt: x < y of ints or of tuples of ints; targets that are pairs, inside a block -/
namespace LL
open PySem PySem.Spec PyProof.Rows L2
section
variable {X : Cx}
def rLtT (K : PySem.W.Frag) : R2 := fun x y H Q => ∃ (a b : Addr) (ns ms : List Int), x = .ref a ∧ y = .ref b ∧ SqT K H a (ns.map V.int) ∧ SqT K H b (ms.map V.int) ∧
  Q (.bl (Ob.lexAt (fun j => decide (ns.getD j 0 = ms.getD j 0)) (fun j => decide (ns.getD j 0 < ms.getD j 0)) (decide (ns.length < ms.length)) 0 (min ns.length ms.length))) H
/-- both ints, or both tuples of ints -/
def rLtA (K : PySem.W.Frag) : R2 := fun x y H Q => rI0 (fun i j => .bl (decide (i < j))) x y H Q ∨ rLtT K x y H Q
theorem ix_listK (K : PySem.W.Frag) (hK : X.K = K) : IxR X (rIxL K) := by
  subst hK
  exact ix_list
theorem ix_tupK (K : PySem.W.Frag) (hK : X.K = K) : IxR X (rIxT K) := by
  subst hK
  exact ix_tup
end
end LL

set_option Elab.async false
set_option linter.all false
set_option maxRecDepth 100000
set_option maxHeartbeats 400000
/-! LMod: models as masks; truths as masks -/
namespace LL
open PySem PySem.Spec PyProof.Rows L2
/-- what world v sees -/
def sA (ss : List Nat) (v : Nat) : Nat := ss.getD v 0
def arcsF (ss : List Nat) : List (Nat × Nat) := (List.range ss.length).flatMap fun v => (bitsL ss.length (sA ss v)).map fun w => (v, w)
def ltP (a b : Nat × Nat) : Prop := a.1 < b.1 ∨ (a.1 = b.1 ∧ a.2 < b.2)
/-! ### the masks of arcs -/
def masksF (n : Nat) (arcs : List (Nat × Nat)) : List Nat := arcs.foldl (fun m a => m.set a.1 (sA m a.1 ||| 2 ^ a.2)) (List.replicate n 0)
theorem sA_set {m : List Nat} {v x u : Nat} (hv : v < m.length) : sA (m.set v x) u = if u = v then x else sA m u := by
  unfold sA
  rw [List.getD_eq_getElem?_getD, List.getD_eq_getElem?_getD, List.getElem?_set]
  by_cases e : v = u
  · subst e; simp [hv]
  · rw [if_neg e, if_neg fun z => e z.symm]
/-! ### models -/
def loopsL (ss : List Nat) : List Nat := (List.range ss.length).filter fun v => (sA ss v).testBit v
def transB (ss : List Nat) : Bool := (arcsF ss).all fun a => decide (sA ss a.1 ||| sA ss a.2 = sA ss a.1)
def propB (x : Str) (ss : List Nat) : Bool := if x = "classical" then decide (arcsF ss = []) else if x = "k" then true else decide ((loopsL ss).length = if x = "gl" then 0 else ss.length) && transB ss
def keptB (ss : List Nat) (L : Nat → Nat) : Bool := (List.range 8).all fun i => (bitsL ss.length (L i)).all fun v => decide (sA ss v ||| L i = L i)
def pD (a : Nat × Nat) : PyData := .tuple [.int (a.1 : Nat), .int (a.2 : Nat)]
def ltD (n : Nat) (L : Nat → Nat) : List PyData := (List.range 8).map fun i => .list (nD (bitsL n (L i)))
def modD (ss : List Nat) (L : Nat → Nat) : PyData := .tuple [.int (ss.length : Nat), .list ((arcsF ss).map pD), .tuple (ltD ss.length L)]
/-- a model of the right form -/
structure RtM (ss : List Nat) (L : Nat → Nat) : Prop where
  pos : 1 ≤ ss.length
  le : ss.length ≤ 256
  lt : ∀ x ∈ ss, x < 2 ^ ss.length
  ll : ∀ i, L i < 2 ^ ss.length
/-! ### truths -/
def every (n : Nat) : Nat := 2 ^ n - 1
def boxM (ss : List Nat) (h : Nat) : Nat := bitsN ((List.range ss.length).filter fun v => decide (sA ss v ||| h = h))
def tmS (intu : Bool) (ss : List Nat) (L : Nat → Nat) (f : List Nat) : Nd → Nat
  | .letter i => L i
  | .no => 0
  | .bin .and j k => sA f j &&& sA f k
  | .bin .or j k => sA f j ||| sA f k
  | .bin .imp j k => if intu = true then boxM ss ((every ss.length ^^^ sA f j) ||| sA f k) else (every ss.length ^^^ sA f j) ||| sA f k
  | .box j => boxM ss (sA f j)
def tmF (intu : Bool) (ss : List Nat) (L : Nat → Nat) (ns : List Nd) : List Nat := ns.foldl (fun f n => f ++ [tmS intu ss L f n]) []
end LL

set_option Elab.async false
set_option linter.all false
set_option maxRecDepth 100000
set_option maxHeartbeats 400000
/-! LSch: the schemes T, 4, Lob, K and their arcs -/
namespace LL
open PySem PySem.Spec PyProof.Rows L2
def im (n a b : Nat) : Nat := (every n ^^^ a) ||| b
/-! ### what holds of arcs -/
section
variable {ss : List Nat}
def Rfx (ss : List Nat) : Prop := ∀ v, v < ss.length → (sA ss v).testBit v = true
def Irr (ss : List Nat) : Prop := ∀ v, v < ss.length → (sA ss v).testBit v = false
def Trn (ss : List Nat) : Prop := ∀ u v, u < ss.length → v < ss.length → (sA ss u).testBit v = true → Sub (sA ss v) (sA ss u)
/-! ### the refuters -/
def awayL (ss : List Nat) : List Nat := (List.range ss.length).filter fun v => !(sA ss v).testBit v
def gapsF (ss : List Nat) : List (Nat × Nat × Nat) := (List.range ss.length).flatMap fun u => (bitsL ss.length (sA ss u)).flatMap fun v => ((bitsL ss.length (sA ss v)).filter fun w => !(sA ss u).testBit w).map fun w => (u, v, w)
/-- what refutes T, 4, Lob -/
def refT (ss : List Nat) : Option Nat := (awayL ss).head?.map fun v => every ss.length ^^^ 2 ^ v
def ref4 (ss : List Nat) : Option Nat := (gapsF ss).head?.map fun g => sA ss g.1
def refL (ss : List Nat) : Option Nat := match (loopsL ss).head? with
  | some l => some (every ss.length ^^^ 2 ^ l)
  | none => (gapsF ss).head?.map fun g => every ss.length ^^^ (2 ^ g.2.1 ||| 2 ^ g.2.2)
end
/-! ### the sheet of the schemes -/
def otherI (i : Nat) : Nat := if i = 0 then 1 else 0
def schN (i : Nat) : List Nd := [.letter i, .letter (otherI i), .box 0, .bin .imp 2 0, .box 2, .bin .imp 2 4, .box 3, .bin .imp 6 2, .bin .imp 0 1, .box 8, .box 1, .bin .imp 2 10, .bin .imp 9 11, .bin .imp 0 2]
def schT (ss : List Nat) (p : Nat) : Nat := im ss.length (boxM ss p) p
def sch4 (ss : List Nat) (p : Nat) : Nat := im ss.length (boxM ss p) (boxM ss (boxM ss p))
def schL (ss : List Nat) (p : Nat) : Nat := im ss.length (boxM ss (schT ss p)) (boxM ss p)
def schK (ss : List Nat) (p q : Nat) : Nat := im ss.length (boxM ss (im ss.length p q)) (im ss.length (boxM ss p) (boxM ss q))
def schP (ss : List Nat) (p : Nat) : Nat := im ss.length p (boxM ss p)
end LL

set_option Elab.async false
set_option linter.all false
set_option maxRecDepth 100000
set_option maxHeartbeats 400000
/-! LShOk: a right sheet has no wrong row -/
namespace LL
open PySem PySem.Spec PyProof.Rows L2
variable [KW]
end LL

set_option Elab.async false
set_option linter.all false
set_option maxRecDepth 100000
set_option maxHeartbeats 400000
/-! LRig: iteration over a list or a tuple; dicts of masks; right models -/
namespace LL
open PySem PySem.Spec PyProof.Rows L2
def iSq (K : PySem.W.Frag) (tl : TE) : TI := fun σ H R => iList K tl σ H R ∨ iTup K tl σ H R
theorem pi_sq {X : Cx} {tg l : Expr} {tl : TE} (hl : PE X l tl) : PI X tg l (iSq X.K tl) := ⟨fun pins s σ H R I h => h.elim (fun h => (pi_list hl).run pins s σ H R I h) fun h => (pi_tup hl).run pins s σ H R I h⟩
theorem op_inK {X : Cx} (K : PySem.W.Frag) (hK : X.K = K) : OpR X (compareOp .In) (rIn K false) := by
  subst hK
  exact op_in_seq
section
variable [KW]
/-! ### {i: mask} -/
def LtD (H : Hp) (d : Addr) (f : Nat → Option Nat) : Prop := ∃ kvs : List (Key × V), H d = some (.dK kvs) ∧ kvs.length ≤ 100 ∧ ∀ i : Nat, valV kvs (Sum.inl ((i : Nat) : Int)) = (f i).map fun k => V.int (k : Nat)
theorem LtD.get {H : Hp} {d : Addr} {f : Nat → Option Nat} (x : LtD H d f) (i : Nat) : DGet H d (.int (i : Nat)) ((f i).map fun k => V.int (k : Nat)) := by
  obtain ⟨kvs, hd, _, hv⟩ := x
  have := DGet.k (k := Sum.inl ((i : Nat) : Int)) hd
  rw [hv i] at this
  exact this
theorem LtD.adv {M : List Addr} {H H' : Hp} {d : Addr} {f : Nat → Option Nat} (x : LtD H d f) (a : Adv M H H') (h : d ∉ M) : LtD H' d f := by
  obtain ⟨kvs, hd, hl, hv⟩ := x
  exact ⟨kvs, a _ _ h hd, hl, hv⟩
theorem LtD.nil {H : Hp} {d : Addr} (h : H d = some (.dK [])) : LtD H d (fun _ => none) := ⟨[], h, by simp, fun i => rfl⟩
end
/-! ### right models -/
def badA (ss : List Nat) (a : Nat × Nat) : Bool := !decide (sA ss a.1 ||| sA ss a.2 = sA ss a.1)
def badK (ss : List Nat) (k : Nat) : Bool := !decide (boxM ss k &&& k = k)
/-! ### truths are masks -/
end LL

set_option Elab.async false
set_option linter.all false
set_option maxRecDepth 100000
set_option maxHeartbeats 400000
/-! LMdl: what places tell of arcs -/
namespace LL
open PySem PySem.Spec PyProof.Rows L2
section
variable {ss : List Nat}
def okT (ss : List Nat) (p : Nat) : Bool := decide (schT ss p = every ss.length)
def ok4 (ss : List Nat) (p : Nat) : Bool := decide (sch4 ss p = every ss.length)
def okL (ss : List Nat) (p : Nat) : Bool := decide (schL ss p = every ss.length)
/-- what the refuter r tells of ok -/
def Tells (ss : List Nat) (r : Option Nat) (ok : Nat → Bool) : Prop := (r = none → ∀ p, p < 2 ^ ss.length → ok p = true) ∧ ∀ p, r = some p → p < 2 ^ ss.length ∧ ok p = false
theorem Tells.all {r : Option Nat} {ok : Nat → Bool} (h : Tells ss r ok) {places : List Nat} (h1 : ∀ p ∈ places, p < 2 ^ ss.length) (h2 : ∀ p, r = some p → p ∈ places) : places.all ok = r.isNone := by
  cases r with
  | none => exact List.all_eq_true.mpr fun p hp => h.1 rfl p (h1 p hp)
  | some p => exact List.all_eq_false.mpr ⟨p, h2 p rfl, by rw [(h.2 p rfl).2]; decide⟩
/-- the places: below, and all refuters among them -/
structure Plc (ss places : List Nat) : Prop where
  lt : ∀ p ∈ places, p < 2 ^ ss.length
  t : ∀ p, refT ss = some p → p ∈ places
  f : ∀ p, ref4 ss = some p → p ∈ places
  l : ∀ p, refL ss = some p → p ∈ places
def refsL (ss : List Nat) : List Nat := [refT ss, ref4 ss, refL ss].filterMap id
end
end LL

set_option Elab.async false
set_option linter.all false
set_option maxRecDepth 100000
set_option maxHeartbeats 400000
/-! LKep: what is kept; excluded middle -/
namespace LL
open PySem PySem.Spec PyProof.Rows L2
section
variable {b : Bool} {ss : List Nat} {L : Nat → Nat}
/-- p or not p -/
def emV (ss : List Nat) (p : Nat) : Nat := p ||| boxM ss (im ss.length p 0)
/-- what holds goes on to hold -/
def Pers (ss : List Nat) (p : Nat) : Prop := Sub p (boxM ss p)
def waysF (ss : List Nat) : List (Nat × Nat) := (arcsF ss).filter fun a => !(sA ss a.2).testBit a.1
end
end LL

set_option Elab.async false
set_option linter.all false
set_option maxRecDepth 100000
set_option maxHeartbeats 2000000
namespace LH
open PySem PySem.Spec PyProof.Rows L2 LL He
section
variable {P : Program} {K : PySem.W.Frag} {mg : Str → Option Value} {w : World} {h : Heap}
theorem df_of {fa : List Fa} {fn : List DefD} (X : K.In h) (G : h.Ns mainGlobals mg) (c : SaysD fa fn K) (i j : Nat) {x : Str} {st : Stmt} {ps : List Str} (hd : fn[i]? = some (dd x st)) (hg : fa[j]? = some (.glo x))
    (hb : ∀ (kV doc pm : Value) (an : Option Addr) (cdv ct : Value) (us : List Value), us.length = ps.length → bindArgs (PySem.W.fnOf x x (defArgs st) (defBody st) (defScope st) .none kV doc pm an cdv ct) ⟨us, []⟩ = pure (ps.zip us)) : Nonempty (Df K mg x st ps) := by
  obtain ⟨fd, F⟩ := c.def_ i (d := dd x st) hd
  have F' := fun_of F
  exact ⟨⟨_, fd, F', glo_ok X G (c.fact j hg), F'.binds hb⟩⟩
theorem items_look (z : Str) : look itemsL z = (nItems z).map fun k => (k : Int) := by
  unfold nItems itemsL
  simp only [look]
  by_cases h1 : z = "letter"
  · subst h1; rfl
  by_cases h2 : z = "no"
  · subst h2; rfl
  by_cases h3 : z = "and"
  · subst h3; rfl
  by_cases h4 : z = "or"
  · subst h4; rfl
  by_cases h5 : z = "if"
  · subst h5; rfl
  by_cases h6 : z = "box"
  · subst h6; rfl
  rw [if_neg h1, if_neg h2, if_neg h3, if_neg h4, if_neg h5, if_neg h6, if_neg (Ne.symm h1), if_neg (Ne.symm h2), if_neg (Ne.symm h3), if_neg (Ne.symm h4), if_neg (Ne.symm h5), if_neg (Ne.symm h6)]
  rfl
theorem items_at (e : itemsB "ITEMS" itemsL K = true) (z : Str) : ∃ r, PySem.W.nsIn K (ga K "ITEMS") z = some r ∧ RelV (match nItems z with | some k => V.int (k : Nat) | none => V.non) (r.getD .none) := by
  obtain ⟨r, h1, h2⟩ := itemsB_ok e z
  refine ⟨r, h1, ?_⟩
  have el := items_look z
  cases n : nItems z with
  | none =>
    rw [n] at el
    rw [show look itemsL z = none from el] at h2
    exact h2
  | some k =>
    rw [n] at el
    rw [show look itemsL z = some (k : Int) from el] at h2
    exact h2
end
end LH

set_option Elab.async false
set_option linter.all false
set_option maxRecDepth 100000
set_option maxHeartbeats 400000
/-! LMrg: sheets merged and tidied, plainly -/
namespace LL
open PySem PySem.Spec PyProof.Rows L2
variable [KW]
def atF (new : List Nat) (p : Nat) : Nat := new.getD p 0
def mrgG : List Nd → List Nd → List Nat → List Nd × List Nat
  | ns, [], new => (ns, new)
  | ns, n :: ms, new => mrgG (rowF ns (n.moved (atF new))).2 ms (new ++ [(rowF ns (n.moved (atF new))).1])
def mrgF (ns ms : List Nd) : List Nd × List Nat := mrgG ns ms []
def tdyG (sheet : List Nd) : List Nat → List Nd → (Nat → Nat) → List Nd × (Nat → Nat)
  | [], ns, f => (ns, f)
  | i :: l, ns, f => tdyG sheet l (rowF ns ((sheet[i]?.getD .no).moved f)).2 (fun x => if x = i then (rowF ns ((sheet[i]?.getD .no).moved f)).1 else f x)
def tdyF (sheet : List Nd) (rows : List Nat) : List Nd × (Nat → Nat) := tdyG sheet (belowF sheet rows) [] (fun _ => 0)
theorem rowLe (ns : List Nd) (n : Nd) : (rowF ns n).2.length ≤ ns.length + 1 := by
  unfold rowF
  split <;> simp
/-- what holds while ms is merged into ns -/
structure MrgOk (bx : Bool) (ns ms : List Nd) (i : Nat) (r : List Nd × List Nat) : Prop where
  ok : okSheet bx r.1
  pre : ns <+: r.1
  le : r.1.length ≤ ns.length + i
  len : r.2.length = i
  lt : ∀ p, p < i → atF r.2 p < r.1.length
  at_ : ∀ (p : Nat) (n : Nd), p < i → ms[p]? = some n → r.1[atF r.2 p]? = some (n.moved (atF r.2))
/-- what holds while the rows l of a sheet are taken over -/
structure TdyOk (bx : Bool) (sheet : List Nd) (l : List Nat) (r : List Nd × (Nat → Nat)) : Prop where
  ok : okSheet bx r.1
  le : r.1.length ≤ l.length
  lt : ∀ i ∈ l, r.2 i < r.1.length
  at_ : ∀ (i : Nat) (n : Nd), i ∈ l → sheet[i]? = some n → r.1[r.2 i]? = some (n.moved r.2)
  all : ∀ k, k < r.1.length → ∃ i ∈ l, r.2 i = k
/-! ### truths -/
section
variable {b : Bool} {ss : List Nat} {L : Nat → Nat}
end
section
variable {K : PySem.W.Frag}
/-- for x in a, a list or a tuple -/
theorem for_sq {j : Nat} {a : Addr} {xs : List V} {g : TG} {tb : TS} {D : Ends} {σ : L2.St} {H : Hp} (e : σ[j]? = some (some (.ref a))) (Pv : Nat → L2.St → Hp → Prop) (h0 : Pv 0 σ H)
    (hl : (∀ i σ H, i ≤ xs.length → Pv i σ H → SqL K H a xs) ∨ ∀ i σ H, i ≤ xs.length → Pv i σ H → SqT K H a xs)
    (hs : ∀ i x σ H, xs[i]? = some x → Pv i σ H → g x σ H fun σ2 H2 => tb { D with nx := Pv (i + 1), ct := Pv (i + 1), bk := D.nx } σ2 H2) (hd : ∀ σ H, Pv xs.length σ H → D.nx σ H) : tFor (iSq K (tVar j)) g tb D σ H := by
  rcases hl with hl | hl
  · exact Or.inl ⟨_, e, a, rfl, ⟨xs, hl 0 σ H (Nat.zero_le _) h0⟩, for_list Pv h0 hl hs hd⟩
  · exact Or.inr ⟨_, e, a, rfl, ⟨xs, hl 0 σ H (Nat.zero_le _) h0⟩, for_tup Pv h0 hl hs hd⟩
end
end LL

set_option Elab.async false
set_option linter.all false
set_option maxRecDepth 100000
set_option maxHeartbeats 400000
/-! LWar: the transitive closure of arcs, arcs along an order, what is held upwards -/
namespace LL
open PySem PySem.Spec PyProof.Rows L2
/-- the closure over the worlds below i -/
structure War (ss : List Nat) (i : Nat) (r : List Nat) : Prop where
  len : r.length = ss.length
  lt : ∀ x ∈ r, x < 2 ^ ss.length
  inc : ∀ v w, (sA ss v).testBit w = true → (sA r v).testBit w = true
  min : ∀ T : Nat → Nat → Prop, (∀ a b c, T a b → T b c → T a c) → (∀ v w, (sA ss v).testBit w = true → T v w) → ∀ v w, (sA r v).testBit w = true → T v w
  cl : ∀ u, u < i → ∀ v w, (sA r v).testBit u = true → (sA r u).testBit w = true → (sA r v).testBit w = true
section
variable {ss r r' : List Nat} {i : Nat}
theorem War.init (h : ∀ x ∈ ss, x < 2 ^ ss.length) : War ss 0 ss := ⟨rfl, h, fun v w h => h, fun T _ h => h, fun u hu => absurd hu (by omega)⟩
theorem War.step (x : War ss i r) (hl : r'.length = ss.length) (hlt : ∀ x ∈ r', x < 2 ^ ss.length) (h : ∀ v, sA r' v = if (sA r v).testBit i = true then sA r v ||| sA r i else sA r v) : War ss (i + 1) r' := by
  have iff : ∀ v w, (sA r' v).testBit w = true ↔ (sA r v).testBit w = true ∨ ((sA r v).testBit i = true ∧ (sA r i).testBit w = true) := fun v w => by
    rw [h v]
    by_cases e : (sA r v).testBit i = true
    · rw [if_pos e, Nat.testBit_or, Bool.or_eq_true]
      exact ⟨fun z => z.elim .inl (fun z => .inr ⟨e, z⟩), fun z => z.elim .inl (fun z => .inr z.2)⟩
    · rw [if_neg e]
      exact ⟨.inl, fun z => z.elim id (fun z => absurd z.1 e)⟩
  refine ⟨hl, hlt, fun v w hv => (iff v w).mpr (.inl (x.inc v w hv)), fun T tr hT v w hv => ?_, fun u hu v w h1 h2 => ?_⟩
  · rcases (iff v w).mp hv with z | ⟨z1, z2⟩
    · exact x.min T tr hT v w z
    · exact tr v i w (x.min T tr hT v i z1) (x.min T tr hT i w z2)
  · rw [iff] at h1 h2 ⊢
    rcases Nat.lt_or_eq_of_le (Nat.lt_succ_iff.mp hu) with hu | rfl
    · have c := x.cl u hu
      rcases h1 with h1 | ⟨h1, h1'⟩
      · rcases h2 with h2 | ⟨h2, h2'⟩
        · exact .inl (c v w h1 h2)
        · exact .inr ⟨c v i h1 h2, h2'⟩
      · rcases h2 with h2 | ⟨h2, h2'⟩
        · exact .inr ⟨h1, c i w h1' h2⟩
        · exact .inr ⟨h1, h2'⟩
    · have a : (sA r v).testBit u = true := h1.elim id (fun z => z.1)
      have b : (sA r u).testBit w = true := h2.elim id (fun z => z.2)
      exact .inr ⟨a, b⟩
/-- the arcs go along an order -/
def OrdR (ord ss : List Nat) : Prop := ∀ v w, (sA ss v).testBit w = true → ∃ a b : Nat, a < b ∧ ord[a]? = some v ∧ ord[b]? = some w
theorem sA_set' {m : List Nat} {v x u : Nat} : sA (m.set v x) u = if u = v ∧ v < m.length then x else sA m u := by
  by_cases hv : v < m.length
  · rw [sA_set hv]
    by_cases e : u = v
    · rw [if_pos e, if_pos ⟨e, hv⟩]
    · rw [if_neg e, if_neg (fun z => e z.1)]
  · rw [List.set_eq_of_length_le (by omega), if_neg (fun z => hv z.2)]
/-- an arc more -/
theorem OrdR.put {ord : List Nat} (h : OrdR ord ss) {v w a b : Nat} (hab : a < b) (ha : ord[a]? = some v) (hb : ord[b]? = some w) : OrdR ord (ss.set v (sA ss v ||| 2 ^ w)) := fun x y hxy => by
  rw [sA_set'] at hxy
  split at hxy
  · rename_i z
    rw [Nat.testBit_or, Bool.or_eq_true] at hxy
    rcases hxy with hxy | hxy
    · exact h x y (by rw [z.1]; exact hxy)
    · rw [Nat.testBit_two_pow] at hxy
      have e : w = y := of_decide_eq_true hxy
      exact ⟨a, b, hab, by rw [z.1]; exact ha, by rw [← e]; exact hb⟩
  · exact h x y hxy
theorem OrdR.zero {ord : List Nat} (n : Nat) : OrdR ord (List.replicate n 0) := fun v w h => by
  have e : sA (List.replicate n 0) v = 0 := by
    unfold sA
    rw [List.getD_eq_getElem?_getD, List.getElem?_replicate]
    split <;> rfl
  rw [e, Nat.zero_testBit] at h
  cases h
/-! what is held upwards -/
def herS (ss : List Nat) (h v : Nat) : Nat := if h.testBit v = true then h ||| sA ss v else h
def herF (ss : List Nat) (n m : Nat) : Nat := (List.range n).foldl (herS ss) m
end
end LL

set_option Elab.async false
set_option linter.all false
set_option maxRecDepth 100000
set_option maxHeartbeats 400000
/-! LEq: lists of numbers and of tuples of numbers are compared -/
namespace LL
open PySem PySem.Spec PyProof.Rows L2
variable [KW]
def tsD (rss : List (List Nat)) : List PyData := rss.map fun r => .tuple (nD r)
section
variable {K : PySem.W.Frag} {w : World} {H : Hp} {M : List Addr}
end
end LL

set_option Elab.async false
set_option linter.all false
set_option maxRecDepth 100000
set_option maxHeartbeats 400000
/-! LPut: a formula put for a letter, plainly -/
namespace LL
open PySem PySem.Spec PyProof.Rows L2
variable [KW]
def putS (i o : Nat) (ns : List Nd) (n : Nd) (f : Nat → Nat) : Nat × List Nd := if n = .letter i then (o, ns) else rowF ns (n.moved f)
def putG (sheet : List Nd) (i o : Nat) : List Nat → List Nd → (Nat → Nat) → List Nd × (Nat → Nat)
  | [], ns, f => (ns, f)
  | r :: l, ns, f => putG sheet i o l (putS i o ns (sheet[r]?.getD .no) f).2 (fun x => if x = r then (putS i o ns (sheet[r]?.getD .no) f).1 else f x)
def putF (sheet : List Nd) (row i o : Nat) : List Nd × (Nat → Nat) := putG sheet i o (belowF sheet [row]) sheet (fun _ => 0)
/-- what holds while the rows l are taken over -/
structure PutOk (bx : Bool) (sheet : List Nd) (i o : Nat) (l : List Nat) (r : List Nd × (Nat → Nat)) : Prop where
  ok : okSheet bx r.1
  pre : sheet <+: r.1
  le : r.1.length ≤ sheet.length + l.length
  lt : ∀ j ∈ l, r.2 j < r.1.length
  at_ : ∀ (j : Nat) (n : Nd), j ∈ l → sheet[j]? = some n → n ≠ .letter i → r.1[r.2 j]? = some (n.moved r.2)
  let_ : ∀ j : Nat, j ∈ l → sheet[j]? = some (.letter i) → r.2 j = o
/-! ### truths -/
section
variable {b : Bool} {ss : List Nat} {L : Nat → Nat}
/-- the letter i holds at the worlds m -/
def putL (L : Nat → Nat) (i m : Nat) : Nat → Nat := fun k => if k = i then m else L k
end
end LL

set_option Elab.async false
set_option linter.all false
set_option maxRecDepth 100000
set_option maxHeartbeats 400000
/-! LNdq: nodes are compared -/
namespace LL
open PySem PySem.Spec PyProof.Rows L2
variable [KW]
section
variable {K : PySem.W.Frag} {w : World} {H : Hp} {M : List Addr}
end
end LL

set_option Elab.async false
set_option linter.all false
set_option maxRecDepth 100000
set_option maxHeartbeats 4000000
/-! LMax: max(list of ints, default=d) -/
namespace LL
open PySem PySem.Spec PyProof.Rows L2
section
variable {prog : Program} {w : World} {A : Around} {R : Result → Shared → Prop} {I : Addr} {fp wr : List Addr} {n : Nat} {P : Nat → Value → Prop} {St : Nat → Heap → Prop}
end
section
variable {prog : Program} {w : World} {A : Around} {E : Value → Shared → Prop} {s : Shared}
end
section
variable {X : Cx}
/-- max(xs, default=d) of a list of ints -/
def rMaxD (K : PySem.W.Frag) : List V → List V → Hp → VK → Prop := fun vs zs H Q => ∃ (a : Addr) (ns : List Int) (d : Int), vs = [V.ref a] ∧ zs = [V.int d] ∧ SqL K H a (ns.map V.int) ∧
  ∀ m : Int, (ns = [] → m = d) → (ns ≠ [] → m ∈ ns ∧ ∀ y, y ∈ ns → y ≤ m) → Q (.int m) H
end
end LL

set_option Elab.async false
set_option linter.all false
set_option maxRecDepth 100000
set_option maxHeartbeats 400000
/-! LSgn: rows below, letters, depth and signs of the rows of a sheet, plainly -/
namespace LL
open PySem PySem.Spec PyProof.Rows L2
variable [KW]
/-- what is told of a row: its rows as bits, its depth, the letters that stand right and turned -/
structure Tb where
  b : Nat
  d : Nat
  p : Nat
  m : Nat
def Tb.z : Tb := ⟨0, 0, 0, 0⟩
def tA (F : List Tb) (j : Nat) : Tb := F.getD j Tb.z
def tbN (a : Nat) (F : List Tb) : Nd → Tb
  | .letter i => ⟨2 ^ a, 0, 2 ^ i, 0⟩
  | .no => ⟨2 ^ a, 0, 0, 0⟩
  | .box j => ⟨(tA F j).b ||| 2 ^ a, (tA F j).d + 1, (tA F j).p, (tA F j).m⟩
  | .bin o j k => ⟨((tA F j).b ||| (tA F k).b) ||| 2 ^ a, max (tA F j).d (tA F k).d, (if o = .imp then (tA F j).m else (tA F j).p) ||| (tA F k).p, (if o = .imp then (tA F j).p else (tA F j).m) ||| (tA F k).m⟩
def tbF (ns : List Nd) : List Tb := ns.foldl (fun F n => F ++ [tbN F.length F n]) []
section
variable {bx : Bool} {ns : List Nd}
/-- the rows' bits, one after the other -/
def orB (F : List Tb) (rows : List Nat) : Nat := rows.foldl (fun x r => x ||| (tA F r).b) 0
/-! ### letters -/
/-! ### signs -/
/-- the letters that stand right (false) or turned (true) -/
def sg (T : Tb) : Bool → Nat
  | false => T.p
  | true => T.m
/-- how a part is turned -/
def turnB : Nd → Nat → Bool
  | .bin .imp _ _, 0 => true
  | _, _ => false
/-- the ways found while the rows from a on are done: of the right sign (false) or turned -/
structure Ways (ns : List Nd) (row a : Nat) (W : Bool → Nat → Bool) : Prop where
  le : ∀ s j, W s j = true → j ≤ row
  inv : ∀ t i, (sg (tA (tbF ns) row) t).testBit i = true ↔ ∃ s j, W s j = true ∧ if j < a then (sg (tA (tbF ns) j) (t ^^ s)).testBit i = true else ns[j]? = some (.letter i) ∧ s = t
/-- one row is done -/
def wayStep (n : Nd) (a : Nat) (W : Bool → Nat → Bool) : Bool → Nat → Bool := fun s j => W s j || decide (∃ k, k < n.parts.length ∧ n.parts[k]? = some j ∧ W (s ^^ turnB n k) a = true)
end
/-! ### letters sorted -/
/-! ### a letter held at more worlds -/
section
variable {bx : Bool} {ns : List Nd} {b : Bool} {ss : List Nat} {L : Nat → Nat}
end
/-! ### what is held goes upwards -/
/-- the worlds of h and, up to k, those that they see -/
def upF (ss : List Nat) (h : Nat) (k : Nat) : Nat := (List.range k).foldl (fun x v => if x.testBit v = true then x ||| sA ss v else x) h
/-! ### the letters of rows -/
def ltrI : Nd → Option Nat
  | .letter i => some i
  | _ => none
def isL (ns : List Nd) (k : Nat) : Bool := ((ns[k]?).bind ltrI).isSome
def idL (ns : List Nd) (k : Nat) : Nat := ((ns[k]?).bind ltrI).getD 0
section
variable {bx : Bool} {ns : List Nd}
end
/-! ### depth -/
end LL

set_option Elab.async false
set_option linter.all false
set_option maxRecDepth 100000
set_option maxHeartbeats 4000000
/-! LEnT: for i, x in enumerate(tuple) -/
namespace LL
open PySem PySem.Spec PyProof.Rows L2
/-- the tuple at a, each item in a new pair -/
def IteT (K : PySem.W.Frag) (a : Addr) : It :=
  ⟨fun i H => ∃ (xs : List V) (x : V), SqT K H a xs ∧ xs[i]? = some x, fun i H v H' => ∃ T x, v = .ref T ∧ H T = none ∧ H' = upd H T (.tup [.int (i : Nat), x]) ∧ ∀ xs, SqT K H a xs → xs[i]? = some x, fun i H => ∃ xs : List V, SqT K H a xs ∧ xs.length ≤ i⟩
def iEnumT (K : PySem.W.Frag) (ta : TA) : TI := fun σ H R => ta σ H fun vs H1 => ∃ a xs, vs = [.ref a] ∧ SqT K H1 a xs ∧ R (IteT K a) H1
end LL

set_option Elab.async false
set_option linter.all false
set_option maxRecDepth 100000
set_option maxHeartbeats 1000000
namespace LL
open PySem PySem.Spec PyProof.Rows L2
/-! ### a tuple turned round: t[::-1] -/
section
variable {prog : Program} {w : World} {A : Around} {E : Value → Shared → Prop} {s : Shared}
theorem plc_rev (n : Nat) : Builtin.Slice.slicePlaces ((n : Int) - 1) (-1) (-1) = n := by
  have h1 : ¬ ((-1 : Int) > 0) := by decide
  have h2 : (-(-1) : Int) = 1 := rfl
  unfold Builtin.Slice.slicePlaces
  rw [if_neg h1, h2, Int.ediv_one]
  by_cases h : (n : Int) - 1 > -1
  · rw [if_pos h]; omega
  · rw [if_neg h]; omega
theorem app_rev {q : Addr} {x y z : Value} {n : Nat} {R : Int × Int × Nat → Shared → Prop} (hq : s.heap.IsSliceOf q x y z) (px : IsPart x none) (py : IsPart y none) (pz : IsPart z (some (-1))) (hR : R ((n : Int) - 1, -1, n) s) :
    wpAny (model prog w) A (Builtin.Slice.sliceApplied (.ref q) (pure (n : Int))) R E s := by
  obtain ⟨o, g1, g2, g3⟩ := id hq
  unfold Builtin.Slice.sliceApplied Builtin.Slice.sliceFields
  refine wpAny_bind (wpAny_bind (wpAny_field g1 g3 (x := x) rfl (wpAny_bind (wpAny_field g1 g3 (x := y) rfl (wpAny_bind (wpAny_field g1 g3 (x := z) rfl (wpAny_pure ?_)))))))
  refine wpAny_bind (HT.slicePart_ pz ?_)
  show wpAny _ _ (if ((-1 : Int) == 0) = true then _ else _) _ _ s
  rw [if_neg (by decide)]
  refine wpAny_bind (HT.slicePart_ px (wpAny_bind (HT.slicePart_ py (wpAny_bind (wpAny_pure ?_)))))
  have e : R ((n : Int) - 1, -1, Builtin.Slice.slicePlaces ((n : Int) - 1) (-1) (-1)) s := by rw [plc_rev]; exact hR
  exact wpAny_pure e
theorem fm_congr {α β : Type} {f g : α → Option β} : ∀ {l : List α}, (∀ a ∈ l, f a = g a) → l.filterMap f = l.filterMap g
  | [], _ => rfl
  | a :: l, h => by rw [List.filterMap_cons, List.filterMap_cons, h a List.mem_cons_self, fm_congr fun b hb => h b (List.mem_cons_of_mem _ hb)]
theorem fm_self {α : Type} : ∀ l : List α, (List.range l.length).filterMap (fun m => l[m]?) = l
  | [] => rfl
  | a :: l => by
    rw [List.length_cons, List.range_succ_eq_map, List.filterMap_cons, List.filterMap_map]
    exact congrArg (a :: ·) (fm_self l)
theorem pick_rev (xs : Array Value) : ((List.range xs.size).filterMap fun (m : Nat) => xs[(((xs.size : Int) - 1) + (m : Int) * (-1)).toNat]?) = xs.toList.reverse := by
  have e1 : ∀ m ∈ List.range xs.size, xs[(((xs.size : Int) - 1) + (m : Int) * (-1)).toNat]? = xs.toList.reverse[m]? := fun m hm => by
    have hm' := List.mem_range.mp hm
    have e : (((xs.size : Int) - 1) + (m : Int) * (-1)).toNat = xs.size - 1 - m := by omega
    rw [e, List.getElem?_reverse (by rw [Array.length_toList]; exact hm'), Array.length_toList, Array.getElem?_toList]
  rw [fm_congr e1]
  have hl : xs.toList.reverse.length = xs.size := by rw [List.length_reverse, Array.length_toList]
  rw [← hl]
  exact fm_self _
theorem gi_rev {t q : Addr} {xs : Array Value} {x y z : Value} {R : Value → Shared → Prop} (hT : IsTup s.heap t xs) (hq : s.heap.IsSliceOf q x y z) (px : IsPart x none) (py : IsPart y none) (pz : IsPart z (some (-1)))
    (hR : R (.ref s.heap.objs.size) { s with heap := s.heap.push { cls := .type "tuple", data := .seq xs.toList.reverse.toArray } }) (zz : xs.size ≤ sizeLine) : wpAny (model prog w) A (getItem (.ref t) (.ref q)) R E s := by
  have zr : sizeOk (.seq xs.toList.reverse.toArray) := by
    show xs.toList.reverse.toArray.size ≤ sizeLine
    rw [List.size_toArray, List.length_reverse, Array.length_toList]; exact zz
  obtain ⟨o, g1, g2, g3⟩ := id hq
  have ty : s.TypeIs (.ref q) "slice" := ⟨o, g1, g2⟩
  unfold getItem
  first | refine wpAny_holding ?_ | skip
  first | refine wpAny_bind (wpAny_pure ?_) | skip
  refine wpAny_bind (wpAny_sequenceKey hT.typeIs (by decide) ?_)
  refine wpAny_bind (wpAny_callSpecial?_slot (name := Str.ofString "__getitem__") hT.typeIs slot_tuple_getitem (wpAny_call_entry slot_tuple_getitem hT.typeIs entry_tuple_getitem ?_ (args_tuple_getitem _ _)))
  show wpAny _ _ (Builtin.Tuple.tupleItemsOf (.ref t) >>= _) _ _ s; refine wpAny_bind (tupleItemsOf_ hT ?_)
  refine wpAny_bind (wpAny_typeOf ty ?_); rw [if_pos (by decide)]
  refine wpAny_bind (app_rev hq px py pz ?_)
  have no : ¬ ((((xs.size : Int) - 1) == 0 && (-1 : Int) == 1 && xs.size == xs.size) = true) := by
    have : ((-1 : Int) == 1) = false := rfl
    rw [this, Bool.and_false, Bool.false_and]; exact Bool.false_ne_true
  show wpAny _ _ (if (((xs.size : Int) - 1) == 0 && (-1 : Int) == 1 && xs.size == xs.size) = true then _ else _) _ _ s
  rw [if_neg no, pick_rev]
  first
    | exact wpAny_bind (m := Builtin.Tuple.tupleExact _) (wpAny_newObj_type (wpAny_pure ⟨_, rfl, wpAny_pure hR⟩) zr)
    | exact wpAny_bind (m := Builtin.Tuple.tupleExact _) (wpAny_newObj_type (wpAny_bind (wpAny_pure (wpAny_pure ⟨_, rfl, wpAny_pure hR⟩))) zr)
    | exact wpAny_bind (wpAny_bind (m := Builtin.Tuple.tupleExact _) (wpAny_newObj_type (wpAny_pure (wpAny_pure ⟨_, rfl, wpAny_pure hR⟩)) zr))
    | exact wpAny_bind (wpAny_bind (m := Builtin.Tuple.tupleExact _) (wpAny_newObj_type (wpAny_pure ⟨_, rfl, wpAny_pure hR⟩) zr))
end
def tRevT (K : PySem.W.Frag) (te : TE) : TE := fun σ H Q => te σ H fun x H1 => ∃ a xs, x = .ref a ∧ SqT K H1 a xs ∧ ∀ p, H1 p = none → Q (.ref p) (upd H1 p (.tup xs.reverse))
theorem pe_revT {X : Cx} {e : Expr} {te : TE} {k : Nat} {p1 p2 p3 pos : Pos} (he : PE X e te) : PE X (.Subscript e (.Slice none none (some (.UnaryOp .USub (.Constant (.int 1) k p1) p2)) p3) pos) (tRevT X.K te) := by
  refine ⟨fun pins s σ H Q I h => Subscript_ (thn (he.run pins s σ H _ I h) fun v s1 ⟨x, H1, I1, r1, a, xs, ex, hx, q⟩ => ?_)⟩
  subst ex; cases r1
  have st : PO X (some (.UnaryOp .USub (.Constant (.int 1) k p1) p2)) (tPart (tUn (rU fun i => .int (-i)) (tC (.int 1)))) := po_some (pe_un un_neg pe_int)
  refine wpAny_Slice (thn (po_none.run pins s1 σ H1 (fun o H2 => o = none ∧ H2 = H1) I1 ⟨rfl, rfl⟩) fun y1 s2 ⟨l, H2, I2, q1, z1, z2⟩ => ?_)
  subst z1 z2
  refine thn (po_none.run pins s2 σ H2 (fun o H3 => o = none ∧ H3 = H2) I2 ⟨rfl, rfl⟩) fun y2 s3 ⟨u, H3, I3, q2, z1, z2⟩ => ?_
  subst z1 z2
  refine thn (st.run pins s3 σ H3 (fun o H4 => o = some (-1) ∧ H4 = H3) I3 ⟨1, rfl, -1, rfl, rfl, rfl⟩) fun y3 s4 ⟨o, H4, I4, q3, z1, z2⟩ => ?_
  subst z1 z2
  have J : Inv X pins σ H4 { s4 with heap := s4.heap.push { cls := .type "slice", data := .fields #[y1, y2, y3] } } := I4.kept (t' := s4.toks) fun b ob g => Heap.get?_push_of_some _ g
  obtain ⟨us, rv, hT, hz⟩ := J.tuple hx
  have hl := rv.length
  show wpAny (model X.prog X.w) X.A (subscriptTail e (.Slice none none (some (.UnaryOp .USub (.Constant (.int 1) k p1) p2)) p3) (.ref a) (.ref s4.heap.objs.size)) (EP X pins σ Q) X.xe _
  refine tail_any (ops := [.ref a, .ref s4.heap.objs.size]) hT.typeIs slot_tuple_getitem.lookup ?_ (by with_unfolding_all rfl)
  refine gi_rev hT (Heap.IsSliceOf.new _ y1 y2 y3) q1 q2 q3 ?_ (by rw [List.size_toArray]; omega)
  refine ⟨.ref _, _, J.laid (t' := s4.toks) (o := .tup xs.reverse) (fun b ob g => Heap.get?_push_of_some _ g) (Nat.le_refl _) ?_, rfl, q _ (J.hok.fresh (Nat.le_refl _))⟩
  exact ⟨by rw [List.length_reverse]; exact hz, _, rv.reverse, IsTup.new _ _⟩
end LL

set_option Elab.async false
set_option linter.all false
set_option maxRecDepth 100000
set_option maxHeartbeats 4000000
namespace K05
open PySem PySem.Spec PyProof.Rows L2 LL
theorem sc_is_integer : FnScope ["value"] ["value"] (defScope s_is_integer) := ⟨rfl, rfl, rfl, by decide +kernel, rfl, by decide +kernel, by decide +kernel⟩
theorem sc_is_between : FnScope ["value", "low", "high"] ["value", "low", "high"] (defScope s_is_between) := ⟨rfl, rfl, rfl, by decide +kernel, rfl, by decide +kernel, by decide +kernel⟩
theorem sc_is_tuple_of : FnScope ["value", "many"] ["value", "many"] (defScope s_is_tuple_of) := ⟨rfl, rfl, rfl, by decide +kernel, rfl, by decide +kernel, by decide +kernel⟩
theorem sc_are_any_rows : FnScope ["value", "count", "item"] ["value", "count"] (defScope s_are_any_rows) := ⟨rfl, rfl, rfl, by decide +kernel, rfl, by decide +kernel, by decide +kernel⟩
theorem sc_is_rising : FnScope ["values", "k"] ["values"] (defScope s_is_rising) := ⟨rfl, rfl, rfl, by decide +kernel, rfl, by decide +kernel, by decide +kernel⟩
theorem sc_are_rows : FnScope ["value", "count"] ["value", "count"] (defScope s_are_rows) := ⟨rfl, rfl, rfl, by decide +kernel, rfl, by decide +kernel, by decide +kernel⟩
theorem sc_check_logic : FnScope ["logic"] ["logic"] (defScope s_check_logic) := ⟨rfl, rfl, rfl, by decide +kernel, rfl, by decide +kernel, by decide +kernel⟩
theorem sc_is_boxed : FnScope ["logic"] ["logic"] (defScope s_is_boxed) := ⟨rfl, rfl, rfl, by decide +kernel, rfl, by decide +kernel, by decide +kernel⟩
theorem sc_is_node : FnScope ["value", "row", "boxed", "word", "part"] ["value", "row", "boxed"] (defScope s_is_node) := ⟨rfl, rfl, rfl, by decide +kernel, rfl, by decide +kernel, by decide +kernel⟩
theorem sc_wrong_row : FnScope ["value", "most", "boxed", "seen", "row", "node"] ["value", "most", "boxed"] (defScope s_wrong_row) := ⟨rfl, rfl, rfl, by decide +kernel, rfl, by decide +kernel, by decide +kernel⟩
theorem sc_check_rows_of : FnScope ["sheet", "most", "boxed", "row"] ["sheet", "most", "boxed"] (defScope s_check_rows_of) := ⟨rfl, rfl, rfl, by decide +kernel, rfl, by decide +kernel, by decide +kernel⟩
theorem sc_parts : FnScope ["node"] ["node"] (defScope s_parts) := ⟨rfl, rfl, rfl, by decide +kernel, rfl, by decide +kernel, by decide +kernel⟩
theorem sc_rows_below : FnScope ["sheet", "rows", "marked", "row", "part"] ["sheet", "rows"] (defScope s_rows_below) := ⟨rfl, rfl, rfl, by decide +kernel, rfl, by decide +kernel, by decide +kernel⟩
theorem sc_check_claim_to : FnScope ["logic", "claim", "most", "sheet", "theory", "left", "right"] ["logic", "claim", "most"] (defScope s_check_claim_to) := ⟨rfl, rfl, rfl, by decide +kernel, rfl, by decide +kernel, by decide +kernel⟩
theorem sc_check_claim : FnScope ["logic", "claim"] ["logic", "claim"] (defScope s_check_claim) := ⟨rfl, rfl, rfl, by decide +kernel, rfl, by decide +kernel, by decide +kernel⟩
theorem sc_is_key : FnScope ["logic", "node"] ["logic", "node"] (defScope s_is_key) := ⟨rfl, rfl, rfl, by decide +kernel, rfl, by decide +kernel, by decide +kernel⟩
theorem sc_keys_in : FnScope ["logic", "sheet", "rows", "row"] ["logic", "sheet", "rows"] (defScope s_keys_in) := ⟨rfl, rfl, rfl, by decide +kernel, rfl, by decide +kernel, by decide +kernel⟩
theorem sc_rows_of : FnScope ["claim"] ["claim"] (defScope s_rows_of) := ⟨rfl, rfl, rfl, by decide +kernel, rfl, by decide +kernel, by decide +kernel⟩
theorem sc_keys_of : FnScope ["logic", "claim"] ["logic", "claim"] (defScope s_keys_of) := ⟨rfl, rfl, rfl, by decide +kernel, rfl, by decide +kernel, by decide +kernel⟩
theorem sc_law_stream : FnScope ["script"] ["script"] (defScope s_law_stream) := ⟨rfl, rfl, rfl, by decide +kernel, rfl, by decide +kernel, by decide +kernel⟩
theorem sc_law_next : FnScope ["stream", "many", "k", "cell", "digit"] ["stream", "many"] (defScope s_law_next) := ⟨rfl, rfl, rfl, by decide +kernel, rfl, by decide +kernel, by decide +kernel⟩
theorem sc_law_pick : FnScope ["stream", "rows"] ["stream", "rows"] (defScope s_law_pick) := ⟨rfl, rfl, rfl, by decide +kernel, rfl, by decide +kernel, by decide +kernel⟩
theorem sc_law_from : FnScope ["stream", "low", "high"] ["stream", "low", "high"] (defScope s_law_from) := ⟨rfl, rfl, rfl, by decide +kernel, rfl, by decide +kernel, by decide +kernel⟩
theorem sc_law_some : FnScope ["stream", "rows", "share", "row"] ["stream", "rows", "share"] (defScope s_law_some) := ⟨rfl, rfl, rfl, by decide +kernel, rfl, by decide +kernel, by decide +kernel⟩
theorem sc_law_number : FnScope ["value", "low", "high"] ["value", "low", "high"] (defScope s_law_number) := ⟨rfl, rfl, rfl, by decide +kernel, rfl, by decide +kernel, by decide +kernel⟩
theorem sc_law_same : FnScope ["actual", "due", "left", "turn", "one", "other", "at", "key"] ["actual", "due"] (defScope s_law_same) := ⟨rfl, rfl, rfl, by decide +kernel, rfl, by decide +kernel, by decide +kernel⟩
theorem sc_law_copy : FnScope ["value", "found", "key", "item"] ["value"] (defScope s_law_copy) := ⟨rfl, rfl, rfl, by decide +kernel, rfl, by decide +kernel, by decide +kernel⟩
theorem sc_law_named : FnScope ["error", "names", "fits"] ["error"] (defScope s_law_named) := ⟨rfl, rfl, rfl, by decide +kernel, rfl, by decide +kernel, by decide +kernel⟩
theorem sc_law_row : FnScope ["book", "node"] ["book", "node"] (defScope s_law_row) := ⟨rfl, rfl, rfl, by decide +kernel, rfl, by decide +kernel, by decide +kernel⟩
theorem sc_law_parts : FnScope ["node"] ["node"] (defScope s_law_parts) := ⟨rfl, rfl, rfl, by decide +kernel, rfl, by decide +kernel, by decide +kernel⟩
theorem sc_law_below : FnScope ["sheet", "rows", "marked", "row", "at", "part"] ["sheet", "rows"] (defScope s_law_below) := ⟨rfl, rfl, rfl, by decide +kernel, rfl, by decide +kernel, by decide +kernel⟩
theorem sc_law_keys : FnScope ["logic", "sheet", "rows", "words", "at"] ["logic", "sheet", "rows"] (defScope s_law_keys) := ⟨rfl, rfl, rfl, by decide +kernel, rfl, by decide +kernel, by decide +kernel⟩
theorem sc_law_claim_keys : FnScope ["logic", "claim"] ["logic", "claim"] (defScope s_law_claim_keys) := ⟨rfl, rfl, rfl, by decide +kernel, rfl, by decide +kernel, by decide +kernel⟩
theorem sc_law_leaf : FnScope ["stream", "book", "letters"] ["stream", "book", "letters"] (defScope s_law_leaf) := ⟨rfl, rfl, rfl, by decide +kernel, rfl, by decide +kernel, by decide +kernel⟩
theorem sc_law_tree : FnScope ["stream", "book", "letters", "many", "boxed", "first", "j", "k"] ["stream", "book", "letters", "many", "boxed"] (defScope s_law_tree) := ⟨rfl, rfl, rfl, by decide +kernel, rfl, by decide +kernel, by decide +kernel⟩
theorem sc_law_heap : FnScope ["stream", "book", "letters", "many", "boxed", "k", "rows", "j", "other", "word"] ["stream", "book", "letters", "many", "boxed"] (defScope s_law_heap) := ⟨rfl, rfl, rfl, by decide +kernel, rfl, by decide +kernel, by decide +kernel⟩
theorem sc_law_raw : FnScope ["stream", "many", "boxed", "sheet", "table", "at", "node", "word", "j"] ["stream", "many", "boxed"] (defScope s_law_raw) := ⟨rfl, rfl, rfl, by decide +kernel, rfl, by decide +kernel, by decide +kernel⟩
theorem sc_law_formula : FnScope ["stream", "book", "letters", "many", "boxed"] ["stream", "book", "letters", "many", "boxed"] (defScope s_law_formula) := ⟨rfl, rfl, rfl, by decide +kernel, rfl, by decide +kernel, by decide +kernel⟩
theorem sc_law_is_boxed : FnScope ["logic"] ["logic"] (defScope s_law_is_boxed) := ⟨rfl, rfl, rfl, by decide +kernel, rfl, by decide +kernel, by decide +kernel⟩
theorem sc_law_is_rows : FnScope ["value", "many", "row", "at"] ["value", "many"] (defScope s_law_is_rows) := ⟨rfl, rfl, rfl, by decide +kernel, rfl, by decide +kernel, by decide +kernel⟩
theorem sc_law_is_node : FnScope ["value", "at", "boxed", "word", "part"] ["value", "at", "boxed"] (defScope s_law_is_node) := ⟨rfl, rfl, rfl, by decide +kernel, rfl, by decide +kernel, by decide +kernel⟩
theorem sc_law_wrong_row : FnScope ["value", "most", "boxed", "seen", "at"] ["value", "most", "boxed"] (defScope s_law_wrong_row) := ⟨rfl, rfl, rfl, by decide +kernel, rfl, by decide +kernel, by decide +kernel⟩
theorem sc_law_line : FnScope ["lines", "left", "right", "rule", "premises", "main"] ["lines", "left", "right", "rule", "premises", "main"] (defScope s_law_line) := ⟨rfl, rfl, rfl, by decide +kernel, rfl, by decide +kernel, by decide +kernel⟩
theorem sc_law_less : FnScope ["rows", "row", "other"] ["rows", "row"] (defScope s_law_less) := ⟨rfl, rfl, rfl, by decide +kernel, rfl, by decide +kernel, by decide +kernel⟩
theorem sc_law_base : FnScope ["stream", "logic", "book", "lines", "letters", "one", "boxed", "row", "more"] ["stream", "logic", "book", "lines", "letters", "one"] (defScope s_law_base) := ⟨rfl, rfl, rfl, by decide +kernel, rfl, by decide +kernel, by decide +kernel⟩
theorem sc_law_part : FnScope ["stream", "book", "rows", "letters"] ["stream", "book", "rows", "letters"] (defScope s_law_part) := ⟨rfl, rfl, rfl, by decide +kernel, rfl, by decide +kernel, by decide +kernel⟩
theorem sc_law_grow_one : FnScope ["stream", "logic", "book", "lines", "letters", "rule", "at", "left", "right", "j", "k", "other", "main"] ["stream", "logic", "book", "lines", "letters", "rule", "at"] (defScope s_law_grow_one) := ⟨rfl, rfl, rfl, by decide +kernel, rfl, by decide +kernel, by decide +kernel⟩
theorem sc_law_grow_box : FnScope ["stream", "logic", "book", "lines", "at", "j", "main", "new", "rows", "row", "other"] ["stream", "logic", "book", "lines", "at", "j"] (defScope s_law_grow_box) := ⟨rfl, rfl, rfl, by decide +kernel, rfl, by decide +kernel, by decide +kernel⟩
theorem sc_law_grow_two : FnScope ["stream", "book", "lines", "letters", "rule", "at", "by", "one", "two", "j", "k", "main"] ["stream", "book", "lines", "letters", "rule", "at", "by"] (defScope s_law_grow_two) := ⟨rfl, rfl, rfl, by decide +kernel, rfl, by decide +kernel, by decide +kernel⟩
theorem sc_law_grow : FnScope ["stream", "logic", "book", "theory", "lines", "letters", "cuts", "one", "at", "by", "rules", "rule", "rows", "main", "new"] ["stream", "logic", "book", "theory", "lines", "letters", "cuts", "one"] (defScope s_law_grow) := ⟨rfl, rfl, rfl, by decide +kernel, rfl, by decide +kernel, by decide +kernel⟩
theorem sc_law_grown : FnScope ["stream", "logic", "letters", "many", "cuts", "one", "book", "theory", "lines", "turn", "last"] ["stream", "logic", "letters", "many", "cuts", "one"] (defScope s_law_grown) := ⟨rfl, rfl, rfl, by decide +kernel, rfl, by decide +kernel, by decide +kernel⟩
theorem sc_law_claim : FnScope ["stream", "logic", "boxed", "sheet", "book", "k", "rows", "theory", "share"] ["stream", "logic"] (defScope s_law_claim) := ⟨rfl, rfl, rfl, by decide +kernel, rfl, by decide +kernel, by decide +kernel⟩
theorem sc_law_bent : FnScope ["stream", "claim", "sheet", "many", "k", "rows", "at", "odd", "bent", "whole"] ["stream", "claim"] (defScope s_law_bent) := ⟨rfl, rfl, rfl, by decide +kernel, rfl, by decide +kernel, by decide +kernel⟩
theorem sc_law_reason : FnScope ["logic", "claim", "row", "k"] ["logic", "claim"] (defScope s_law_reason) := ⟨rfl, rfl, rfl, by decide +kernel, rfl, by decide +kernel, by decide +kernel⟩
theorem sc_law_ask : FnScope ["word", "logic", "claim", "answer", "e"] ["word", "logic", "claim"] (defScope s_law_ask) := ⟨rfl, rfl, rfl, by decide +kernel, rfl, by decide +kernel, by decide +kernel⟩
theorem sc_law_is_answered : FnScope ["logic", "claim", "kept", "reason", "one", "two"] ["logic", "claim"] (defScope s_law_is_answered) := ⟨rfl, rfl, rfl, by decide +kernel, rfl, by decide +kernel, by decide +kernel⟩
theorem sc_law : FnScope ["script", "stream", "turn", "logic", "claim", "k", "bent", "other", "strange"] ["script"] (defScope s_law) := ⟨rfl, rfl, rfl, by decide +kernel, rfl, by decide +kernel, by decide +kernel⟩
/-- the built-ins that the text does not name anew -/
structure Txt (K : PySem.W.Frag) (mg : Str → Option Value) : Prop where
  ValueError : mg "ValueError" = none
  abs : mg "abs" = none
  all : mg "all" = none
  bool : mg "bool" = none
  dict : mg "dict" = none
  enumerate : mg "enumerate" = none
  int : mg "int" = none
  isinstance : mg "isinstance" = none
  len : mg "len" = none
  list : mg "list" = none
  min : mg "min" = none
  range : mg "range" = none
  set : mg "set" = none
  sorted : mg "sorted" = none
  str : mg "str" = none
  tuple : mg "tuple" = none
variable [KW]
/-- the constants of the top -/
structure Con (K : PySem.W.Frag) (mg : Str → Option Value) (w : World) : Prop where
  items : ∃ (a : Addr) (es : Array DictEntry) (n : Nat), mg "ITEMS" = some (.ref a) ∧ KDict K w a es n ∧ ∀ z : Str, ∃ r, PySem.W.nsIn K a z = some r ∧ RelV (match nItems z with | some k => V.int (k : Nat) | none => V.non) (r.getD .none)
  last : ∃ t, mg "LAST_LETTER" = some (.int 7 t)
  most : ∃ t, mg "MOST_ROWS" = some (.int 60 t)
  logics : ∃ a, mg "LOGICS" = some (.ref a) ∧ ∀ H, SqT K H a [.str "classical", .str "intuit", .str "k", .str "s4", .str "gl"]
  modal : ∃ a, mg "MODAL" = some (.ref a) ∧ ∀ H, SqT K H a [.str "k", .str "s4", .str "gl"]
structure All (K : PySem.W.Frag) (mg : Str → Option Value) (w : World) where
  T : Txt K mg
  C : Con K mg w
  W : KWOk K w
  is_integer : Df K mg "is_integer" s_is_integer ["value"]
  is_between : Df K mg "is_between" s_is_between ["value", "low", "high"]
  is_tuple_of : Df K mg "is_tuple_of" s_is_tuple_of ["value", "many"]
  are_any_rows : Df K mg "are_any_rows" s_are_any_rows ["value", "count"]
  is_rising : Df K mg "is_rising" s_is_rising ["values"]
  are_rows : Df K mg "are_rows" s_are_rows ["value", "count"]
  check_logic : Df K mg "check_logic" s_check_logic ["logic"]
  is_boxed : Df K mg "is_boxed" s_is_boxed ["logic"]
  is_node : Df K mg "is_node" s_is_node ["value", "row", "boxed"]
  wrong_row : Df K mg "wrong_row" s_wrong_row ["value", "most", "boxed"]
  check_rows_of : Df K mg "check_rows_of" s_check_rows_of ["sheet", "most", "boxed"]
  parts : Df K mg "parts" s_parts ["node"]
  rows_below : Df K mg "rows_below" s_rows_below ["sheet", "rows"]
  check_claim_to : Df K mg "check_claim_to" s_check_claim_to ["logic", "claim", "most"]
  check_claim : Df K mg "check_claim" s_check_claim ["logic", "claim"]
  is_key : Df K mg "is_key" s_is_key ["logic", "node"]
  keys_in : Df K mg "keys_in" s_keys_in ["logic", "sheet", "rows"]
  rows_of : Df K mg "rows_of" s_rows_of ["claim"]
  keys_of : Df K mg "keys_of" s_keys_of ["logic", "claim"]
  law_stream : Df K mg "_law_stream" s_law_stream ["script"]
  law_next : Df K mg "_law_next" s_law_next ["stream", "many"]
  law_pick : Df K mg "_law_pick" s_law_pick ["stream", "rows"]
  law_from : Df K mg "_law_from" s_law_from ["stream", "low", "high"]
  law_some : Df K mg "_law_some" s_law_some ["stream", "rows", "share"]
  law_number : Df K mg "_law_number" s_law_number ["value", "low", "high"]
  law_same : Df K mg "_law_same" s_law_same ["actual", "due"]
  law_copy : Df K mg "_law_copy" s_law_copy ["value"]
  law_named : Df K mg "_law_named" s_law_named ["error"]
  law_row : Df K mg "_law_row" s_law_row ["book", "node"]
  law_parts : Df K mg "_law_parts" s_law_parts ["node"]
  law_below : Df K mg "_law_below" s_law_below ["sheet", "rows"]
  law_keys : Df K mg "_law_keys" s_law_keys ["logic", "sheet", "rows"]
  law_claim_keys : Df K mg "_law_claim_keys" s_law_claim_keys ["logic", "claim"]
  law_leaf : Df K mg "_law_leaf" s_law_leaf ["stream", "book", "letters"]
  law_tree : Df K mg "_law_tree" s_law_tree ["stream", "book", "letters", "many", "boxed"]
  law_heap : Df K mg "_law_heap" s_law_heap ["stream", "book", "letters", "many", "boxed"]
  law_raw : Df K mg "_law_raw" s_law_raw ["stream", "many", "boxed"]
  law_formula : Df K mg "_law_formula" s_law_formula ["stream", "book", "letters", "many", "boxed"]
  law_is_boxed : Df K mg "_law_is_boxed" s_law_is_boxed ["logic"]
  law_is_rows : Df K mg "_law_is_rows" s_law_is_rows ["value", "many"]
  law_is_node : Df K mg "_law_is_node" s_law_is_node ["value", "at", "boxed"]
  law_wrong_row : Df K mg "_law_wrong_row" s_law_wrong_row ["value", "most", "boxed"]
  law_line : Df K mg "_law_line" s_law_line ["lines", "left", "right", "rule", "premises", "main"]
  law_less : Df K mg "_law_less" s_law_less ["rows", "row"]
  law_base : Df K mg "_law_base" s_law_base ["stream", "logic", "book", "lines", "letters", "one"]
  law_part : Df K mg "_law_part" s_law_part ["stream", "book", "rows", "letters"]
  law_grow_one : Df K mg "_law_grow_one" s_law_grow_one ["stream", "logic", "book", "lines", "letters", "rule", "at"]
  law_grow_box : Df K mg "_law_grow_box" s_law_grow_box ["stream", "logic", "book", "lines", "at", "j"]
  law_grow_two : Df K mg "_law_grow_two" s_law_grow_two ["stream", "book", "lines", "letters", "rule", "at", "by"]
  law_grow : Df K mg "_law_grow" s_law_grow ["stream", "logic", "book", "theory", "lines", "letters", "cuts", "one"]
  law_grown : Df K mg "_law_grown" s_law_grown ["stream", "logic", "letters", "many", "cuts", "one"]
  law_claim : Df K mg "_law_claim" s_law_claim ["stream", "logic"]
  law_bent : Df K mg "_law_bent" s_law_bent ["stream", "claim"]
  law_reason : Df K mg "_law_reason" s_law_reason ["logic", "claim"]
  law_ask : Df K mg "_law_ask" s_law_ask ["word", "logic", "claim"]
  law_is_answered : Df K mg "_law_is_answered" s_law_is_answered ["logic", "claim"]
  law : Df K mg "law" s_law ["script"]

set_option Elab.async false
set_option linter.all false
set_option maxRecDepth 100000
set_option maxHeartbeats 4000000
open PySem PySem.Spec PyProof.Rows L2 LL
open C8 (pss_cut)
section
variable [KW]
variable {P : Program} {w : World} {K : PySem.W.Frag} {mg : Str → Option Value} {base : Heap}
/-! ### _law_stream -/
def spStream (K : PySem.W.Frag) : Sp := fun vs H Q _ => ∃ (a : Addr) (ns : List Int), vs = [.ref a] ∧ SqL K H a (ns.map V.int) ∧ ns.length ≤ 63 ∧
  ∀ s H', H s = none → StrAt [] H' s → Adv [] H H' → Q (.ref s) H'
theorem ok_law_stream (A : All K mg w) : FnOk P w K mg base CX0 1 A.law_stream.f A.law_stream.fd ["script"] (spStream K) := by
  refine A.law_stream.F.ok sc_law_stream (fun vs H Q E h => ?_) (fun cdv Ar outer s H vs Q E hr h => ?_)
  · obtain ⟨a, ns, rfl, _⟩ := h
    rfl
  · obtain ⟨a, ns, rfl, hS, hl, q⟩ := h
    refine ⟨_, pss_one (ps_ret (pe_lst (pa_cons (pe_callTy call_list_of (by rfl) A.T.list (by decide +kernel) (pa_cons (pv 0) pa_nil)) (pa_cons pe_int (pa_cons pe_int pa_nil))))), ?_⟩
    refine ⟨_, rfl, a, _, rfl, .inl hS, fun l nl => ?_⟩
    refine ⟨by show 3 ≤ sizeLine; decide, fun p np => ?_⟩
    have npl : l ≠ p := fun z => by rw [← z, upd_same] at np; cases np
    have np0 : H p = none := by rw [upd_ne npl.symm] at np; exact np
    refine q p _ np0 ⟨l, ns, 0, 0, upd_same, by rw [upd_ne npl, upd_same], Int.le_refl _, Int.le_refl _, by simp⟩ ?_
    exact Adv.trans (Adv.new nl) (Adv.new np)
/-! ### _law_next -/
def spNext : Sp := fun vs H Q _ => ∃ (s : Addr) (many : Int) (M : List Addr), vs = [.ref s, .int many] ∧ StrAt M H s ∧ 0 < many ∧ many < 1073741824 ∧
  ∀ d H', 0 ≤ d → d < many → StrAt M H' s → Adv [s] H H' → Q (.int d) H'
theorem ok_law_next (A : All K mg w) : FnOk P w K mg base CX0 1 A.law_next.f A.law_next.fd ["stream", "many"] spNext := by
  refine A.law_next.F.ok sc_law_next (fun vs H Q E h => ?_) (fun cdv Ar outer s H vs Q E hr h => ?_)
  · obtain ⟨a, ns, M, rfl, _⟩ := h
    rfl
  · obtain ⟨s, many, M, rfl, ⟨l, ns, c, k, hs, hl, hc, hk, hlM⟩, hm, hm2, q⟩ := h
    refine ⟨_, (pss_cut (ps_if (pt_cmpR op_eq (pe_ix ix_list (pv 0) pe_int (fun _ _ => rfl)) pe_int (nomark _))
      (pss_cons (ps_set (i := 2) sc_law_next.nd rfl (Or.inl rfl) (pe_ix ix_list (pv 0) pe_int (fun _ _ => rfl)))
      (pss_cons (ps_set (i := 3) sc_law_next.nd rfl (Or.inl rfl) (pe_op op_add pe_int (pv 2)))
      (pss_cut (ps_if (pt_cmpR op_lt (pv 2) (pe_callB call_len_seq (by rfl) A.T.len PySem.boot_len (pa_cons (pe_ix ix_list (pv 0) pe_int (fun _ _ => rfl)) pa_nil)) (nomark _))
        (pss_one (ps_set (i := 3) sc_law_next.nd rfl (Or.inl rfl) (pe_callB call_abs (by rfl) A.T.abs (by decide +kernel) (pa_cons (pe_ix ix_list (pe_ix ix_list (pv 0) pe_int (fun _ _ => rfl)) (pv 2) (fun _ _ => rfl)) pa_nil))))
        pss_nil)
      (pss_cut (ps_if (pt_cmpR op_lt (pv 3) (pe_op op_pow pe_int pe_int) (nomark _))
        (pss_cons (ps_set (i := 3) sc_law_next.nd rfl (Or.inl rfl) (pe_op op_mod (pe_callTy call_int1 (by rfl) A.T.int (by decide +kernel) (pa_cons (pe_op op_add (pe_op op_add (pe_op op_mul (pv 3) pe_int) (pe_op op_mul (pv 2) pe_int)) pe_int) pa_nil)) pe_int))
        (pss_one (ps_set (i := 3) sc_law_next.nd rfl (Or.inl rfl) (pe_op op_add (pe_op op_mul (pe_op op_mod (pe_callTy call_int1 (by rfl) A.T.int (by decide +kernel) (pa_cons (pe_op op_add (pe_op op_mul (pv 3) pe_int) pe_int) pa_nil)) pe_int) pe_int) (pv 3)))))
        pss_nil)
      (pss_cons (ps_asg (pv 3) (pg_sub (pv 0) pe_int set_list))
      (pss_one (ps_asg (pe_op op_add (pv 2) pe_int) (pg_sub (pv 0) pe_int set_list))))))))
      pss_nil)
      (pss_cons (ps_set (i := 4) sc_law_next.nd rfl (Or.inl rfl) (pe_op op_mod (pe_callTy call_int1 (by rfl) A.T.int (by decide +kernel) (pa_cons (pe_ix ix_list (pv 0) pe_int (fun _ _ => rfl)) pa_nil)) (pv 1)))
      (pss_cons (ps_asg (pe_op op_fdiv (pe_ix ix_list (pv 0) pe_int (fun _ _ => rfl)) (pv 1)) (pg_sub (pv 0) pe_int set_list))
      (pss_one (ps_ret (pv 4)))))), ?_⟩
    have at0 : ∀ c k : Int, atI [V.ref l, .int c, .int k] 0 = some (.ref l) := fun _ _ => atI_nat (j := 0) rfl
    have at1 : ∀ c k : Int, atI [V.ref l, .int c, .int k] 1 = some (.int c) := fun _ _ => atI_nat (j := 1) rfl
    have at2 : ∀ c k : Int, atI [V.ref l, .int c, .int k] 2 = some (.int k) := fun _ _ => atI_nat (j := 2) rfl
    have nls : l ≠ s := ne_of hl hs ne_lst_ints.symm
    refine ⟨fun σ' H' => ∃ (c k : Int) (v2 v3 : Option V), σ' = [some (.ref s), some (.int many), v2, v3, none] ∧ H' s = some (.lst [V.ref l, .int c, .int k]) ∧ 0 ≤ c ∧ 0 ≤ k ∧ Adv [s] H H', ?_, ?_⟩
    · refine ⟨_, rfl, s, _, 1, _, rfl, rfl, SqL.of hs, at1 c k, rfl, _, rfl, ?_⟩
      refine iteB (fun e => ?_) (fun e => ⟨c, k, none, none, rfl, hs, hc, hk, Adv.refl _ _⟩)
      -- a new cell
      refine ⟨_, rfl, s, _, 2, _, rfl, rfl, SqL.of hs, at2 c k, ?_⟩
      refine ⟨_, rfl, 7, k, rfl, rfl, ?_⟩
      refine ⟨fun σ' H' => ∃ c1 : Int, σ' = [some (.ref s), some (.int many), some (.int k), some (.int c1), none] ∧ H = H' ∧ 0 ≤ c1, ?_, ?_⟩
      · refine ⟨_, rfl, _, rfl, s, _, 0, _, rfl, rfl, SqL.of hs, at0 c k, l, _, rfl, .inl (SqL.of hl), k, _, rfl, rfl, _, rfl, ?_⟩
        refine iteB (fun e => ?_) (fun e => ⟨7 + k, rfl, rfl, by omega⟩)
        have hlt : k < ns.length := by simpa using e
        obtain ⟨j, rfl⟩ : ∃ j : Nat, k = (j : Int) := ⟨k.toNat, by omega⟩
        have hj : j < ns.length := by omega
        have hg : (ns.map V.int)[j]? = some (.int ns[j]) := by simp [hj]
        refine ⟨_, rfl, s, _, 0, _, rfl, rfl, SqL.of hs, at0 c _, _, rfl, l, _, (j : Int), _, rfl, rfl, SqL.of hl, atI_nat hg, _, rfl, ?_⟩
        refine ⟨_, rfl, rfl, ?_⟩
        split <;> omega
      · rintro σ' H' ⟨c1, rfl, rfl, hc1⟩
        refine ⟨fun σ' H' => ∃ c1 : Int, σ' = [some (.ref s), some (.int many), some (.int k), some (.int c1), none] ∧ H = H' ∧ 0 ≤ c1, ?_, ?_⟩
        · refine ⟨_, rfl, 10, 18, rfl, rfl, ⟨by decide, by decide, by decide⟩, c1, _, rfl, rfl, _, rfl, ?_⟩
          refine iteB (fun e => ?_) (fun e => ⟨c1, rfl, rfl, hc1⟩)
          refine ⟨_, rfl, c1, 48271, rfl, rfl, .inr ⟨by decide, by decide⟩, _, rfl, k, 69621, rfl, rfl, .inr ⟨by decide, by decide⟩, _, _, rfl, rfl, _, _, rfl, rfl, .inl ⟨_, rfl, _, 2147483647, rfl, rfl, by show (0 : Int) < 2147483647; decide, ?_⟩⟩
          refine ⟨_, rfl, _, 16807, rfl, rfl, .inr ⟨by decide, by decide⟩, _, _, rfl, rfl, .inl ⟨_, rfl, _, 2147483647, rfl, rfl, by show (0 : Int) < 2147483647; decide, ?_⟩⟩
          refine ⟨_, _, rfl, rfl, .inr ⟨by decide, by decide⟩, _, rfl, _, _, rfl, rfl, ?_⟩
          refine ⟨_, rfl, rfl, ?_⟩
          omega
        · rintro σ' H' ⟨c2, rfl, rfl, hc2⟩
          refine ⟨_, rfl, _, rfl, s, _, 1, 1, rfl, rfl, hs, rfl, ?_⟩
          refine ⟨_, rfl, k, 1, rfl, rfl, _, rfl, s, _, 2, 2, rfl, rfl, upd_same, rfl, ?_⟩
          refine ⟨c2, k + 1, _, _, rfl, ?_, hc2, by omega, ?_⟩
          · rw [upd_same]
            rfl
          · exact ((Adv.refl _ _).setT (by simp)).setT (by simp)
    · rintro σ' H1 ⟨c, k, v2, v3, rfl, h1, hc, hk, a⟩
      refine ⟨_, rfl, s, _, 1, _, rfl, rfl, SqL.of h1, at1 c k, .inl ⟨c, rfl, _, rfl, c, many, rfl, rfl, hm, ?_⟩⟩
      refine ⟨_, rfl, s, _, 1, _, rfl, rfl, SqL.of h1, at1 c k, _, rfl, c, many, rfl, rfl, ⟨hm, hm2⟩, ?_⟩
      refine ⟨_, rfl, s, _, 1, 1, rfl, rfl, h1, rfl, ?_⟩
      refine ⟨_, rfl, ?_⟩
      have hl1 : H1 l = some (.lst (ns.map V.int)) := a _ _ (by simpa using nls) hl
      refine q _ _ (Int.emod_nonneg _ (Int.ne_of_gt hm)) (Int.emod_lt_of_pos _ hm) ⟨l, ns, c / many, k, upd_same, by rw [upd_ne nls]; exact hl1, Int.ediv_nonneg hc (Int.le_of_lt hm), hk, hlM⟩ ?_
      exact a.setT (by simp)
/-! ### _law_pick: out of a list, out of a tuple -/
def spPick : Sp := fun vs H Q _ => ∃ (s r : Addr) (xs : List V) (M : List Addr), vs = [.ref s, .ref r] ∧ StrAt M H s ∧ (H r = some (.lst xs) ∨ H r = some (.tup xs)) ∧ r ≠ s ∧ xs ≠ [] ∧ xs.length < 1073741824 ∧
  ∀ x H', x ∈ xs → StrAt M H' s → Adv [s] H H' → Q x H'
theorem ok_law_pick (A : All K mg w) : FnOk P w K mg base CX0 2 A.law_pick.f A.law_pick.fd ["stream", "rows"] spPick := by
  refine A.law_pick.F.ok sc_law_pick (fun vs H Q E h => ?_) (fun cdv Ar outer s H vs Q E hr h => ?_)
  · obtain ⟨s, r, xs, M, rfl, _⟩ := h
    rfl
  · obtain ⟨s, r, xs, M, rfl, hs, hx, nrs, hne, hl, q⟩ := h
    refine ⟨_, pss_one (ps_ret (pe_ix (ix_or ix_list ix_tup) (pv 1) (pe_call (ok_law_next A) (hr.mono (by decide)) rfl A.law_next.m A.law_next.F.kp A.law_next.b .nil pass0 (pa_cons (pv 0) (pa_cons (pe_callB call_len_seq (by rfl) A.T.len PySem.boot_len (pa_cons (pv 1) pa_nil)) pa_nil))) (fun _ _ => rfl))), ?_⟩
    have hpos : 0 < xs.length := List.length_pos_iff.mpr hne
    refine ⟨_, rfl, _, rfl, _, rfl, r, xs, rfl, ?_, s, _, M, rfl, hs, by omega, by omega, fun d H' h0 h1 hs' a => ?_⟩
    · rcases hx with h | h
      · exact .inl (SqL.of h)
      · exact .inr (SqT.of h)
    · obtain ⟨j, rfl⟩ : ∃ j : Nat, d = (j : Int) := ⟨d.toNat, by omega⟩
      have hj : j < xs.length := by omega
      have hg : xs[j]? = some xs[j] := List.getElem?_eq_getElem hj
      have nm : r ∉ [s] := by simpa using nrs
      rcases hx with h | h
      · exact .inl ⟨r, xs, j, xs[j], rfl, rfl, SqL.of (a _ _ nm h), atI_nat hg, q _ _ (List.getElem_mem hj) hs' a⟩
      · exact .inr ⟨r, xs, j, xs[j], rfl, rfl, SqT.of (a _ _ nm h), atI_nat hg, q _ _ (List.getElem_mem hj) hs' a⟩
/-! ### _law_from -/
def spFrom : Sp := fun vs H Q _ => ∃ (s : Addr) (lo hi : Int) (M : List Addr), vs = [.ref s, .int lo, .int hi] ∧ StrAt M H s ∧ lo ≤ hi ∧ hi - lo < 1073741823 ∧
  ∀ d H', lo ≤ d → d ≤ hi → StrAt M H' s → Adv [s] H H' → Q (.int d) H'
theorem ok_law_from (A : All K mg w) : FnOk P w K mg base CX0 2 A.law_from.f A.law_from.fd ["stream", "low", "high"] spFrom := by
  refine A.law_from.F.ok sc_law_from (fun vs H Q E h => ?_) (fun cdv Ar outer s H vs Q E hr h => ?_)
  · obtain ⟨s, lo, hi, M, rfl, _⟩ := h
    rfl
  · obtain ⟨s, lo, hi, M, rfl, hs, h1, h2, q⟩ := h
    refine ⟨_, pss_one (ps_ret (pe_op op_add (pv 1) (pe_call (ok_law_next A) (hr.mono (by decide)) rfl A.law_next.m A.law_next.F.kp A.law_next.b .nil pass0 (pa_cons (pv 0) (pa_cons (pe_op op_add (pe_op op_sub (pv 2) (pv 1)) pe_int) pa_nil))))), ?_⟩
    refine ⟨_, rfl, _, rfl, _, rfl, _, rfl, hi, lo, rfl, rfl, _, _, rfl, rfl, s, _, M, rfl, hs, by omega, by omega, fun d H' h0 h1 hs' a => ?_⟩
    exact ⟨lo, d, rfl, rfl, q _ _ (by omega) (by omega) hs' a⟩
end

set_option Elab.async false
set_option linter.all false
set_option maxRecDepth 100000
set_option maxHeartbeats 4000000
open PySem PySem.Spec PyProof.Rows L2 LL
open C8 (pss_cut)
section
variable [KW]
variable {P : Program} {w : World} {K : PySem.W.Frag} {mg : Str → Option Value} {base : Heap}
/-! ### is_integer, is_between -/
def spIsInteger : Sp := fun vs H Q _ => ∃ (v : V) (d : PyData), vs = [v] ∧ Is [] H d v ∧ Q (.bl (kitD d "int" && !kitD d "bool")) H
theorem ok_is_integer (A : All K mg w) : FnOk P w K mg base CX0 1 A.is_integer.f A.is_integer.fd ["value"] spIsInteger := by
  refine A.is_integer.F.ok sc_is_integer (fun vs H Q E h => ?_) (fun cdv Ar outer s H vs Q E hr h => ?_)
  · obtain ⟨v, d, rfl, _⟩ := h
    rfl
  · obtain ⟨v, d, rfl, hv, q⟩ := h
    refine ⟨_, (pss_one (ps_ret (pe_and (pe_callB call_isi (by rfl) A.T.isinstance (by decide +kernel) (pa_cons (pv 0) (pa_cons (pe_bltn (v := .ty "int") (by rfl) A.T.int (by decide +kernel) rfl) pa_nil))) (pe_one (pe_not (pe_callB call_isi (by rfl) A.T.isinstance (by decide +kernel) (pa_cons (pv 0) (pa_cons (pe_bltn (v := .ty "bool") (by rfl) A.T.bool (by decide +kernel) rfl) pa_nil)))))))), ?_⟩
    refine ⟨_, rfl, _, _, _, _, _, rfl, .ty _, hv.ty A.W, k_int d, _, rfl, iteB (fun e => ?_) (fun e => ?_)⟩
    · refine ⟨_, rfl, _, _, _, _, _, rfl, .ty _, hv.ty A.W, k_bool d, _, rfl, ?_⟩
      rw [e, Bool.true_and] at q
      exact q
    · rw [e, Bool.false_and] at q
      exact q
theorem isNum_of (d : PyData) (lo hi : Int) : (if (kitD d "int" && !kitD d "bool") = true then isNum lo hi d else false) = isNum lo hi d := by
  cases d <;> simp [kitD, isNum, tyN]
def spIsBetween : Sp := fun vs H Q _ => ∃ (v : V) (d : PyData) (lo hi : Int), vs = [v, .int lo, .int hi] ∧ Is [] H d v ∧ Q (.bl (isNum lo hi d)) H
theorem ok_is_between (A : All K mg w) : FnOk P w K mg base CX0 2 A.is_between.f A.is_between.fd ["value", "low", "high"] spIsBetween := by
  refine A.is_between.F.ok sc_is_between (fun vs H Q E h => ?_) (fun cdv Ar outer s H vs Q E hr h => ?_)
  · obtain ⟨v, d, lo, hi, rfl, _⟩ := h
    rfl
  · obtain ⟨v, d, lo, hi, rfl, hv, q⟩ := h
    refine ⟨_, (pss_one (ps_ret (pe_and (pe_call (ok_is_integer A) (hr.mono (by decide)) rfl A.is_integer.m A.is_integer.F.kp A.is_integer.b .nil pass0 (pa_cons (pv 0) pa_nil)) (pe_one (pe_chain op_le op_le (pv 1) (pv 0) (pv 2)))))), ?_⟩
    rw [← isNum_of] at q
    refine ⟨_, rfl, v, d, rfl, hv, _, rfl, iteB (fun e => ?_) (fun e => ?_)⟩
    · rw [if_pos e] at q
      cases d with
      | int i =>
        cases hv.intE
        refine ⟨_, rfl, _, rfl, lo, i, rfl, rfl, _, rfl, iteB (fun e1 => ?_) (fun e1 => ?_)⟩
        · refine ⟨_, rfl, i, hi, rfl, rfl, ?_⟩
          have q' : Q (.bl (decide (lo ≤ i) && decide (i ≤ hi))) H := q
          rw [e1, Bool.true_and] at q'
          exact q'
        · have q' : Q (.bl (decide (lo ≤ i) && decide (i ≤ hi))) H := q
          rw [e1, Bool.false_and] at q'
          exact q'
      | _ => simp [kitD, tyN] at e
    · rw [if_neg (by rw [e]; decide)] at q
      exact q
/-! ### _law_number -/
theorem ok_law_number (A : All K mg w) : FnOk P w K mg base CX0 1 A.law_number.f A.law_number.fd ["value", "low", "high"] spIsBetween := by
  refine A.law_number.F.ok sc_law_number (fun vs H Q E h => ?_) (fun cdv Ar outer s H vs Q E hr h => ?_)
  · obtain ⟨v, d, lo, hi, rfl, _⟩ := h
    rfl
  · obtain ⟨v, d, lo, hi', rfl, hv, q⟩ := h
    refine ⟨_, (pss_cons (ps_if (PW.pt (pw_or (pt_not (pt_val (pe_callB call_isi (by rfl) A.T.isinstance (by decide +kernel) (pa_cons (pv 0) (pa_cons (pe_bltn (v := .ty "int") (by rfl) A.T.int (by decide +kernel) rfl) pa_nil))))) (pw_or1 (pt_val (pe_callB call_isi (by rfl) A.T.isinstance (by decide +kernel) (pa_cons (pv 0) (pa_cons (pe_bltn (v := .ty "bool") (by rfl) A.T.bool (by decide +kernel) rfl) pa_nil)))))))
    (pss_one (ps_ret pe_bl))
    pss_nil)
  (pss_one (ps_ret (pe_and (pe_cmpR op_le (pv 1) (pv 0) (nomark _)) (pe_one (pe_cmpR op_le (pv 0) (pv 2) (nomark _))))))), ?_⟩
    rw [← isNum_of] at q
    refine ⟨_, rfl, _, _, _, _, _, rfl, .ty _, hv.ty A.W, k_int d, _, rfl, ?_⟩
    cases hi : kitD d "int" with
    | false =>
      refine iteY rfl ?_
      rw [hi] at q
      exact q
    | true =>
      refine iteN rfl ?_
      refine ⟨_, rfl, _, _, _, _, _, rfl, .ty _, hv.ty A.W, k_bool d, _, rfl, ?_⟩
      cases hb : kitD d "bool" with
      | true =>
        refine iteY rfl ?_
        rw [hi, hb] at q
        exact q
      | false =>
        refine iteN rfl ?_
        rw [hi, hb] at q
        cases d with
        | int i =>
          cases hv.intE
          refine ⟨_, rfl, _, rfl, lo, i, rfl, rfl, _, rfl, iteB (fun e1 => ?_) (fun e1 => ?_)⟩
          · refine ⟨_, rfl, _, rfl, i, hi', rfl, rfl, ?_⟩
            have q' : Q (.bl (decide (lo ≤ i) && decide (i ≤ hi'))) H := q
            rw [e1, Bool.true_and] at q'
            exact q'
          · have q' : Q (.bl (decide (lo ≤ i) && decide (i ≤ hi'))) H := q
            rw [e1, Bool.false_and] at q'
            exact q'
        | _ => simp [kitD, tyN] at hi hb
/-! ### is_boxed, _law_is_boxed, check_logic of a right logic -/
def logicB (x : Str) : Bool := x = "k" || x = "s4" || x = "gl"
def logicOk (x : Str) : Bool := x = "classical" || x = "intuit" || x = "k" || x = "s4" || x = "gl"
theorem inV_strs (x : Str) (ws : List Str) : inV (.str x) (ws.map V.str) = ws.any fun y => decide (x = y) := by
  unfold inV
  rw [List.any_map]
  congr 1
  funext y
  show (y == x) = decide (x = y)
  by_cases h : x = y
  · subst h; simp
  · have h2 : ¬ y = x := fun z => h z.symm
    simp [h, h2]
def spIsBoxed : Sp := fun vs H Q _ => ∃ (x : Str), vs = [.str x] ∧ ∀ H', Adv [] H H' → Q (.bl (logicB x)) H'
theorem ok_is_boxed (A : All K mg w) : FnOk P w K mg base CX0 1 A.is_boxed.f A.is_boxed.fd ["logic"] spIsBoxed := by
  refine A.is_boxed.F.ok sc_is_boxed (fun vs H Q E h => ?_) (fun cdv Ar outer s H vs Q E hr h => ?_)
  · obtain ⟨x, rfl, _⟩ := h
    rfl
  · obtain ⟨x, rfl, q⟩ := h
    obtain ⟨a, ma, ha⟩ := A.C.modal
    refine ⟨_, (pss_one (ps_ret (pe_cmpR op_in_seq (pv 0) (pe_glob (v := .ref a) rfl ma rfl) rfl))), ?_⟩
    refine ⟨_, rfl, a, _, rfl, .inr (ha H), rfl, by decide, ?_⟩
    have e : inV (.str x) [.str "k", .str "s4", .str "gl"] = logicB x := (inV_strs x ["k", "s4", "gl"]).trans (by simp [logicB, Bool.or_assoc])
    rw [if_neg Bool.false_ne_true, e]
    exact q H (Adv.refl _ _)
theorem ok_law_is_boxed (A : All K mg w) : FnOk P w K mg base CX0 1 A.law_is_boxed.f A.law_is_boxed.fd ["logic"] spIsBoxed := by
  refine A.law_is_boxed.F.ok sc_law_is_boxed (fun vs H Q E h => ?_) (fun cdv Ar outer s H vs Q E hr h => ?_)
  · obtain ⟨x, rfl, _⟩ := h
    rfl
  · obtain ⟨x, rfl, q⟩ := h
    refine ⟨_, (pss_one (ps_ret (pe_cmpR op_in_seq (pv 0) (pe_tup (pa_cons pe_str (pa_cons pe_str (pa_cons pe_str pa_nil)))) rfl))), ?_⟩
    refine ⟨_, rfl, by show 3 ≤ sizeLine; decide, fun p np => ⟨p, _, rfl, .inr (SqT.of upd_same), rfl, by decide, ?_⟩⟩
    have e : inV (.str x) [.str "k", .str "s4", .str "gl"] = logicB x := (inV_strs x ["k", "s4", "gl"]).trans (by simp [logicB, Bool.or_assoc])
    rw [if_neg Bool.false_ne_true, e]
    exact q _ (Adv.new np)
end

set_option Elab.async false
set_option linter.all false
set_option maxRecDepth 100000
set_option maxHeartbeats 4000000
open PySem PySem.Spec PyProof.Rows L2 LL
open C8 (pss_cut)
theorem cut_from1 (xs : List V) : cutV xs (some 1) none = xs.drop 1 := by
  unfold cutV
  rw [show HT.sIx xs.length 0 (some 1) = min 1 xs.length from HT.sIx_nat xs.length 0 1, HT.sIx_none]
  cases xs with
  | nil => rfl
  | cons x r =>
    have e : min 1 (x :: r).length = 1 := by rw [List.length_cons]; omega
    rw [e]
    simp
theorem all_id (bs : List Bool) (f : PyData → Bool) (ds : List PyData) (h : bs = ds.map f) : bs.all id = ds.all f := by
  rw [h, List.all_map]
  rfl
section
variable [KW]
variable {P : Program} {w : World} {K : PySem.W.Frag} {mg : Str → Option Value} {base : Heap}
def spIsNode : Sp := fun vs H Q _ => ∃ (v : V) (d : PyData) (row : Int) (boxed : Bool), vs = [v, .int row, .bl boxed] ∧ Is [] H d v ∧ ∀ H', Adv [] H H' → Q (.bl (nodeB boxed row d)) H'
theorem ok_is_node (A : All K mg w) : FnOk P w K mg base CX0 3 A.is_node.f A.is_node.fd ["value", "row", "boxed"] spIsNode := by
  refine A.is_node.F.ok sc_is_node (fun vs H Q E h => ?_) (fun cdv Ar outer s H vs Q E hr h => ?_)
  · obtain ⟨v, d, row, boxed, rfl, _⟩ := h
    rfl
  · obtain ⟨v, d, row, boxed, rfl, hv, q⟩ := h
    obtain ⟨tL, mL⟩ := A.C.last
    obtain ⟨ai, es, n, mi, KD, hi⟩ := A.C.items
    refine ⟨_, (pss_cons (ps_if (PW.pt (pw_or (pt_not (pt_val (pe_callB call_isi (by rfl) A.T.isinstance (by decide +kernel) (pa_cons (pv 0) (pa_cons (pe_bltn (v := .ty "tuple") (by rfl) A.T.tuple (by decide +kernel) rfl) pa_nil))))) (pw_or (pt_cmpR op_eq (pe_callB call_len_seq (by rfl) A.T.len PySem.boot_len (pa_cons (pv 0) pa_nil)) pe_int (nomark _)) (pw_or1 (pt_not (pt_val (pe_callB call_isi (by rfl) A.T.isinstance (by decide +kernel) (pa_cons (pe_ix ix_tup (pv 0) pe_int (fun _ _ => rfl)) (pa_cons (pe_bltn (v := .ty "str") (by rfl) A.T.str (by decide +kernel) rfl) pa_nil)))))))))
    (pss_one (ps_ret pe_bl))
    pss_nil)
  (pss_cons (ps_set (i := 3) sc_is_node.nd rfl (Or.inl rfl) (pe_ix ix_tup (pv 0) pe_int (fun _ _ => rfl)))
  (pss_cons (ps_if (pt_cmpR op_ne (pe_kget (pe_glob (v := .ref ai) rfl mi rfl) (pv 3) ⟨rfl, rfl, rfl, rfl⟩) (pe_callB call_len_seq (by rfl) A.T.len PySem.boot_len (pa_cons (pv 0) pa_nil)) (nomark _))
    (pss_one (ps_ret pe_bl))
    pss_nil)
  (pss_cons (ps_if (pt_cmpR op_eq (pv 3) pe_str (nomark _))
    (pss_one (ps_ret (pe_call (ok_is_between A) (hr.mono (by omega)) rfl A.is_between.m A.is_between.F.kp A.is_between.b .nil pass0 (pa_cons (pe_ix ix_tup (pv 0) pe_int (fun _ _ => rfl)) (pa_cons pe_int (pa_cons (pe_glob (v := .int 7) rfl mL ⟨_, rfl⟩) pa_nil))))))
    pss_nil)
  (pss_cons (ps_if (PW.pt (pw_and (pt_cmpR op_eq (pv 3) pe_str (nomark _)) (pw_and1 (pt_not (pt_val (pv 2))))))
    (pss_one (ps_ret pe_bl))
    pss_nil)
  (pss_one (ps_ret (pe_callB (cr_all rfl) (by rfl) A.T.all (by decide +kernel) (pa_cons (pe_lc (own := [("part", 4)]) (g := (gName 4)) rfl sc_is_node.nd (pi_tup (pe_slice sl_tup (pv 0) (po_some pe_int) po_none)) (blkOk_by (own := [("part", 4)]) (N := ["value", "row", "boxed", "word", "part"]) (sc := defScope s_is_node) (by decide +kernel)) (fun _ _ _ _ _ => pg_name (i := 4) sc_is_node.nd rfl (Or.inl rfl)) (fun _ _ _ _ _ => pts_nil) (fun _ _ _ _ _ => (pe_call (ok_is_between A) (hr.mono (by omega)) rfl A.is_between.m A.is_between.F.kp A.is_between.b .nil pass0 (pa_cons (pv 4) (pa_cons pe_int (pa_cons (pe_op op_sub (pv 1) pe_int) pa_nil)))))) pa_nil))))))))), ?_⟩
    have no : ¬ (∃ ds, d = .tuple ds) → kitD d "tuple" = false ∧ nodeB boxed row d = false := fun h => by
      cases d with
      | tuple ds => exact absurd ⟨ds, rfl⟩ h
      | _ => exact ⟨by simp [kitD, tyN], rfl⟩
    refine ⟨_, rfl, _, _, _, _, _, rfl, .ty _, hv.ty A.W, k_tuple d, _, rfl, ?_⟩
    by_cases ht : ∃ ds, d = .tuple ds
    case neg =>
      obtain ⟨e1, e2⟩ := no ht
      refine iteY (by rw [e1]; rfl) (iteY rfl ?_)
      have q' := q H (Adv.refl _ _)
      rw [e2] at q'
      exact q'
    obtain ⟨ds, rfl⟩ := ht
    refine iteN (by simp [kitD, tyN]) ?_
    obtain ⟨a, vs, rfl, htp, hs⟩ := hv.tupE
    refine ⟨_, rfl, a, vs, rfl, .inr (htp.sq A.W), rfl, _, rfl, ?_⟩
    cases ds with
    | nil =>
      have e0 : vs = [] := by unfold IsDs at hs; exact hs
      subst e0
      exact iteY rfl (iteY rfl (q H (Adv.refl _ _)))
    | cons d0 ps =>
      have hlen := hs.len
      have hs' := hs
      unfold IsDs at hs
      obtain ⟨v0, rs, rfl, h0, hps⟩ := hs
      refine iteN (by simp [List.length_cons]; omega) ?_
      refine ⟨_, rfl, a, _, 0, v0, rfl, rfl, htp.sq A.W, atI_nat (j := 0) rfl, _, _, _, _, _, rfl, .ty _, h0.ty A.W, k_str d0, _, rfl, ?_⟩
      by_cases hw : ∃ w, d0 = .str w
      case neg =>
        have e1 : kitD d0 "str" = false := by
          cases d0 with
          | str x => exact absurd ⟨x, rfl⟩ hw
          | _ => simp [kitD, tyN]
        have e2 : nodeB boxed row (.tuple (d0 :: ps)) = false := by
          cases d0 with
          | str x => exact absurd ⟨x, rfl⟩ hw
          | _ => rfl
        refine iteY (by rw [e1]; rfl) ?_
        have q' := q H (Adv.refl _ _)
        rw [e2] at q'
        exact q'
      obtain ⟨wd, rfl⟩ := hw
      cases h0.strE
      refine iteN (by simp [kitD, tyN]) ?_
      -- word = value[0]
      refine ⟨_, rfl, a, _, 0, _, rfl, rfl, htp.sq A.W, atI_nat (j := 0) rfl, ?_⟩
      -- ITEMS.get(word) != len(value)
      obtain ⟨r, er, rr⟩ := hi wd
      refine ⟨ai, es, n, rfl, KD, _, rfl, wd, r, _, rfl, er, rr, _, rfl, a, _, rfl, .inr (htp.sq A.W), ?_, _, rfl, ?_⟩
      · cases nItems wd <;> rfl
      have hl2 : rs.length = ps.length := hps.len
      have hnode : nodeB boxed row (.tuple (.str wd :: ps)) = (if nItems wd = some (ps.length + 1) then (if wd = "letter" then ps.all (isNum 0 7) else if wd = "box" && !boxed then false else ps.all (isNum 0 (row - 1))) else false) := rfl
      rw [hnode] at q
      by_cases hn : nItems wd = some (ps.length + 1)
      case neg =>
        rw [if_neg hn] at q
        refine iteY ?_ (q H (Adv.refl _ _))
        cases en : nItems wd with
        | none => rfl
        | some k =>
          have hk : ¬ k = ps.length + 1 := fun z => hn (by rw [en, z])
          simp [hl2]
          omega
      rw [if_pos hn] at q
      refine iteN (by rw [hn]; simp [hl2]) ?_
      -- word == 'letter'
      refine ⟨_, rfl, rfl, _, rfl, ?_⟩
      by_cases hlet : wd = "letter"
      · subst hlet
        rw [if_pos rfl] at q
        refine iteY (by simp) ?_
        have h2 : ps.length = 1 := by
          have e : nItems "letter" = some 2 := by decide +kernel
          rw [e] at hn
          have := Option.some.inj hn
          omega
        obtain ⟨p, rfl⟩ : ∃ p, ps = [p] := List.length_eq_one_iff.mp h2
        unfold IsDs at hps
        obtain ⟨v1, r1, rfl, h1, hn1⟩ := hps
        refine ⟨_, rfl, a, _, 1, v1, rfl, rfl, htp.sq A.W, atI_nat (j := 1) rfl, v1, p, 0, 7, rfl, h1, ?_⟩
        have q' := q H (Adv.refl _ _)
        simpa using q'
      · rw [if_neg hlet] at q
        refine iteN (by simp [hlet]) ?_
        refine ⟨_, rfl, rfl, _, rfl, ?_⟩
        have go : (wd = "box" && !boxed) = false → tRet (tCB (rAll K) (tCons (tLc (iTup K (tSl (rSlT K) (tVar 0) (tPart (tC (.int 1))) tNoPart)) (gName 4) tYes (tCall spIsBetween [] E0 (tCons (tVar 4) (tCons (tC (.int 0)) (tCons (tOp (rI0 fun i j => .int (i - j)) (tVar 1) (tC (.int 1))) tNil)))) [4]) tNil)) { nx := fun _ H' => Q .non H', rt := Q } [some (.ref a), some (.int row), some (.bl boxed), some (.str wd), none] H := fun hb => by
          rw [if_neg (by rw [hb]; decide)] at q
          refine ⟨_, rfl, 1, rfl, a, _, rfl, htp.sq A.W, ?_, fun p np => ?_⟩
          · intro z
            have z1 := z.1
            rw [show HT.sIx (V.str wd :: rs).length 0 (some 1) = min 1 (V.str wd :: rs).length from HT.sIx_nat _ 0 1, List.length_cons] at z1
            omega
          · rw [cut_from1]
            refine ⟨p, rfl, ⟨_, SqT.of upd_same⟩, fun D nD => ?_⟩
            have aP : Adv [] H (upd H p (.tup rs)) := Adv.new np
            refine lc_mapT (K := K) (a := p) (xs := rs) (fun i => V.bl (isNum 0 (row - 1) (ps.getD i .none))) nD (SqT.of upd_same) ?_ ?_ ?_
            · have : ps.length ≤ 3 := by
                unfold nItems at hn
                repeat' (split at hn)
                all_goals first | (have := Option.some.inj hn; omega) | cases hn
              omega
            · intro i x H' acc R hx aH hD k
              have hip : i < ps.length := by rw [← hl2]; exact (List.getElem?_eq_some_iff.mp hx).1
              obtain ⟨dx, hdx, hisx⟩ := hps.getV hx
              have ed : ps.getD i .none = dx := by rw [List.getD_eq_getElem?_getD, hdx]; rfl
              refine ⟨rfl, x, rfl, _, rfl, row, 1, rfl, rfl, x, dx, 0, row - 1, rfl, (hisx.adv (aP.trans aH)), ?_⟩
              have k' := k H' hD aH
              rw [ed] at k'
              exact k'
            · intro H' aH hD
              refine ⟨D, ps.map (isNum 0 (row - 1)), rfl, .inl (.inl ?_), ?_⟩
              · rw [hD, hl2, range_map_list]
              · have q' := q H' (aP.trans aH)
                rw [all_id _ (isNum 0 (row - 1)) ps rfl]
                exact q'
        by_cases hbx : wd = "box"
        · subst hbx
          refine iteY (by simp) ⟨_, rfl, _, rfl, ?_⟩
          cases boxed with
          | true => exact iteN rfl (go (by simp))
          | false =>
            rw [if_pos (by simp)] at q
            exact iteY rfl (q H (Adv.refl _ _))
        · refine iteN (by simp [hbx]) ?_
          exact go (by simp [hbx])
end

set_option Elab.async false
set_option linter.all false
set_option maxRecDepth 100000
set_option maxHeartbeats 4000000
open PySem PySem.Spec PyProof.Rows L2 LL
open C8 (pss_cut)
theorem filt_none (f : PyData → Bool) (ps : List PyData) (n : Nat) (h : n = ps.length) (ys : Nat → V) : decide (V.int ((((List.range n).filter fun i => !f (ps.getD i .none)).map ys).length : Nat) = V.int 0) = ps.all f := by
  subst h
  rw [List.length_map]
  by_cases ha : ps.all f = true
  · rw [ha]
    have e : (List.range ps.length).filter (fun i => !f (ps.getD i .none)) = [] := by
      rw [List.filter_eq_nil_iff]
      intro i hi
      have hi' : i < ps.length := List.mem_range.mp hi
      have : f ps[i] = true := List.all_eq_true.mp ha _ (List.getElem_mem hi')
      simp [List.getD_eq_getElem?_getD, hi', this]
    rw [e]
    rfl
  · have hf : ps.all f = false := by simpa using ha
    rw [hf]
    have : ¬ ((List.range ps.length).filter (fun i => !f (ps.getD i .none))).length = 0 := fun z => by
      apply ha
      rw [List.all_eq_true]
      intro p hp
      obtain ⟨i, hi, rfl⟩ := List.getElem_of_mem hp
      have e0 := List.length_eq_zero_iff.mp z
      rw [List.filter_eq_nil_iff] at e0
      have := e0 i (List.mem_range.mpr hi)
      simpa [List.getD_eq_getElem?_getD, hi] using this
    simp only [decide_eq_false_iff_not]
    intro z
    have := V.int.inj z
    omega
def fiveB (x : Str) : Bool := x = "no" || x = "and" || x = "or" || x = "if" || x = "box"
theorem five_items {x : Str} (h : fiveB x = true) : nItems x = some (if x = "no" then 1 else if x = "box" then 2 else 3) := by
  unfold fiveB at h
  simp only [Bool.or_eq_true, decide_eq_true_eq] at h
  rcases h with (((rfl | rfl) | rfl) | rfl) | rfl <;> decide +kernel
theorem no_items {x : Str} (h : fiveB x = false) (hl : ¬ x = "letter") : nItems x = none := by
  unfold fiveB at h
  simp only [Bool.or_eq_false_iff, decide_eq_false_iff_not] at h
  obtain ⟨⟨⟨⟨h1, h2⟩, h3⟩, h4⟩, h5⟩ := h
  unfold nItems
  rw [if_neg hl, if_neg h1, if_neg h2, if_neg h3, if_neg h4, if_neg h5]
theorem val_items (x : Str) : (valV (mergeK [] [((Sum.inr "no" : Key), V.int 1), (Sum.inr "box", V.int 2)]) (Sum.inr x)).getD (V.int 3) = V.int ((if x = "no" then 1 else if x = "box" then 2 else 3 : Nat) : Int) := by
  have e : mergeK [] [((Sum.inr "no" : Key), V.int 1), (Sum.inr "box", V.int 2)] = [((Sum.inr "no" : Key), V.int 1), (Sum.inr "box", V.int 2)] := by decide +kernel
  rw [e]
  unfold valV
  rw [List.find?_cons, List.find?_cons, List.find?_nil]
  by_cases h1 : x = "no"
  · subst h1
    rw [if_pos rfl]
    have : decide ((Sum.inr ("no" : Str) : Key) = Sum.inr ("no" : Str)) = true := by decide +kernel
    rw [this]
    rfl
  · have n1 : decide (((Sum.inr "no" : Key)) = Sum.inr x) = false := decide_eq_false fun z => h1 (Sum.inr.inj z).symm
    rw [if_neg h1, n1]
    by_cases h2 : x = "box"
    · subst h2
      rw [if_pos rfl]
      have : decide ((Sum.inr ("box" : Str) : Key) = Sum.inr ("box" : Str)) = true := by decide +kernel
      rw [this]
      rfl
    · have n2 : decide (((Sum.inr "box" : Key)) = Sum.inr x) = false := decide_eq_false fun z => h2 (Sum.inr.inj z).symm
      rw [if_neg h2, n2]
      rfl
section
variable [KW]
variable {P : Program} {w : World} {K : PySem.W.Frag} {mg : Str → Option Value} {base : Heap}
theorem ok_law_is_node (A : All K mg w) : FnOk P w K mg base CX0 2 A.law_is_node.f A.law_is_node.fd ["value", "at", "boxed"] spIsNode := by
  refine A.law_is_node.F.ok sc_law_is_node (fun vs H Q E h => ?_) (fun cdv Ar outer s H vs Q E hr h => ?_)
  · obtain ⟨v, d, row, boxed, rfl, _⟩ := h
    rfl
  · obtain ⟨v, d, row, boxed, rfl, hv, q⟩ := h
    refine ⟨_, (pss_cons (ps_if (PW.pt (pw_or (pt_not (pt_val (pe_callB call_isi (by rfl) A.T.isinstance (by decide +kernel) (pa_cons (pv 0) (pa_cons (pe_bltn (v := .ty "tuple") (by rfl) A.T.tuple (by decide +kernel) rfl) pa_nil))))) (pw_or (pt_cmpR op_eq (pe_callB call_len_seq (by rfl) A.T.len PySem.boot_len (pa_cons (pv 0) pa_nil)) pe_int (nomark _)) (pw_or1 (pt_not (pt_val (pe_callB call_isi (by rfl) A.T.isinstance (by decide +kernel) (pa_cons (pe_ix ix_tup (pv 0) pe_int (fun _ _ => rfl)) (pa_cons (pe_bltn (v := .ty "str") (by rfl) A.T.str (by decide +kernel) rfl) pa_nil)))))))))
    (pss_one (ps_ret pe_bl))
    pss_nil)
  (pss_cons (ps_set (i := 3) sc_law_is_node.nd rfl (Or.inl rfl) (pe_ix ix_tup (pv 0) pe_int (fun _ _ => rfl)))
  (pss_cons (ps_if (pt_cmpR op_eq (pv 3) pe_str (nomark _))
    (pss_one (ps_ret (pe_and (pe_cmpR op_eq (pe_callB call_len_seq (by rfl) A.T.len PySem.boot_len (pa_cons (pv 0) pa_nil)) pe_int (nomark _)) (pe_one (pe_call (ok_law_number A) (hr.mono (by omega)) rfl A.law_number.m A.law_number.F.kp A.law_number.b .nil pass0 (pa_cons (pe_ix ix_tup (pv 0) pe_int (fun _ _ => rfl)) (pa_cons pe_int (pa_cons pe_int pa_nil))))))))
    pss_nil)
  (pss_cons (ps_if (PW.pt (pw_or (pt_cmpR op_notIn_seq (pv 3) (pe_tup (pa_cons pe_str (pa_cons pe_str (pa_cons pe_str (pa_cons pe_str (pa_cons pe_str pa_nil)))))) rfl) (pw_or (PW.pt (pw_and (pt_cmpR op_eq (pv 3) pe_str (nomark _)) (pw_and1 (pt_not (pt_val (pv 2)))))) (pw_or1 (pt_cmpR op_ne (pe_callB call_len_seq (by rfl) A.T.len PySem.boot_len (pa_cons (pv 0) pa_nil)) (pe_dget2 (hu_of hr) (pe_disp (pps_cons pe_str pe_int (pps_cons pe_str pe_int pps_nil)) (by rfl) (by rfl) (fun z => by cases z) (by decide)) (pv 3) pe_int ⟨rfl, rfl, rfl, rfl⟩) (nomark _))))))
    (pss_one (ps_ret pe_bl))
    pss_nil)
  (pss_one (ps_ret (pe_cmpR op_eq (pe_callB call_len_seq (by rfl) A.T.len PySem.boot_len (pa_cons (pe_lc (own := [("part", 4)]) (g := (gName 4)) rfl sc_law_is_node.nd (pi_tup (pe_slice sl_tup (pv 0) (po_some pe_int) po_none)) (blkOk_by (own := [("part", 4)]) (N := ["value", "at", "boxed", "word", "part"]) (sc := defScope s_law_is_node) (by decide +kernel)) (fun _ _ _ _ _ => pg_name (i := 4) sc_law_is_node.nd rfl (Or.inl rfl)) (fun _ _ _ _ _ => pts_one (pt_not (pt_val (pe_call (ok_law_number A) (hr.mono (by omega)) rfl A.law_number.m A.law_number.F.kp A.law_number.b .nil pass0 (pa_cons (pv 4) (pa_cons pe_int (pa_cons (pe_op op_sub (pv 1) pe_int) pa_nil))))))) (fun _ _ _ _ _ => (pv 4))) pa_nil)) pe_int (nomark _)))))))), ?_⟩
    have no : ¬ (∃ ds, d = .tuple ds) → kitD d "tuple" = false ∧ nodeB boxed row d = false := fun h => by
      cases d with
      | tuple ds => exact absurd ⟨ds, rfl⟩ h
      | _ => exact ⟨by simp [kitD, tyN], rfl⟩
    refine ⟨_, rfl, _, _, _, _, _, rfl, .ty _, hv.ty A.W, k_tuple d, _, rfl, ?_⟩
    by_cases ht : ∃ ds, d = .tuple ds
    case neg =>
      obtain ⟨e1, e2⟩ := no ht
      refine iteY (by rw [e1]; rfl) (iteY rfl ?_)
      have q' := q H (Adv.refl _ _)
      rw [e2] at q'
      exact q'
    obtain ⟨ds, rfl⟩ := ht
    refine iteN (by simp [kitD, tyN]) ?_
    obtain ⟨a, vs, rfl, htp, hs⟩ := hv.tupE
    refine ⟨_, rfl, a, vs, rfl, .inr (htp.sq A.W), rfl, _, rfl, ?_⟩
    cases ds with
    | nil =>
      have e0 : vs = [] := by unfold IsDs at hs; exact hs
      subst e0
      exact iteY rfl (iteY rfl (q H (Adv.refl _ _)))
    | cons d0 ps =>
      have hlen := hs.len
      unfold IsDs at hs
      obtain ⟨v0, rs, rfl, h0, hps⟩ := hs
      refine iteN (by simp [List.length_cons]; omega) ?_
      refine ⟨_, rfl, a, _, 0, v0, rfl, rfl, htp.sq A.W, atI_nat (j := 0) rfl, _, _, _, _, _, rfl, .ty _, h0.ty A.W, k_str d0, _, rfl, ?_⟩
      by_cases hw : ∃ w, d0 = .str w
      case neg =>
        have e1 : kitD d0 "str" = false := by
          cases d0 with
          | str x => exact absurd ⟨x, rfl⟩ hw
          | _ => simp [kitD, tyN]
        have e2 : nodeB boxed row (.tuple (d0 :: ps)) = false := by
          cases d0 with
          | str x => exact absurd ⟨x, rfl⟩ hw
          | _ => rfl
        refine iteY (by rw [e1]; rfl) ?_
        have q' := q H (Adv.refl _ _)
        rw [e2] at q'
        exact q'
      obtain ⟨wd, rfl⟩ := hw
      cases h0.strE
      refine iteN (by simp [kitD, tyN]) ?_
      refine ⟨_, rfl, a, _, 0, _, rfl, rfl, htp.sq A.W, atI_nat (j := 0) rfl, ?_⟩
      have hl2 : rs.length = ps.length := hps.len
      have hnode : nodeB boxed row (.tuple (.str wd :: ps)) = (if nItems wd = some (ps.length + 1) then (if wd = "letter" then ps.all (isNum 0 7) else if wd = "box" && !boxed then false else ps.all (isNum 0 (row - 1))) else false) := rfl
      rw [hnode] at q
      -- word == "letter"
      refine ⟨_, rfl, rfl, _, rfl, ?_⟩
      by_cases hlet : wd = "letter"
      · subst hlet
        refine iteY (by simp) ?_
        have e : nItems "letter" = some 2 := by decide +kernel
        rw [e, if_pos rfl] at q
        refine ⟨_, rfl, a, _, rfl, .inr (htp.sq A.W), rfl, _, rfl, ?_⟩
        by_cases h2 : ps.length = 1
        · rw [if_pos (by rw [h2])] at q
          refine iteY (by simp [hl2, h2]) ?_
          obtain ⟨p, rfl⟩ : ∃ p, ps = [p] := List.length_eq_one_iff.mp h2
          unfold IsDs at hps
          obtain ⟨v1, r1, rfl, h1, hn1⟩ := hps
          refine ⟨_, rfl, a, _, 1, v1, rfl, rfl, htp.sq A.W, atI_nat (j := 1) rfl, v1, p, 0, 7, rfl, h1, ?_⟩
          have q' := q H (Adv.refl _ _)
          simpa using q'
        · rw [if_neg (fun z => h2 (by have := Option.some.inj z; omega))] at q
          exact iteN (by simp [hl2]; omega) (q H (Adv.refl _ _))
      rw [if_neg hlet] at q
      refine iteN (by simp [hlet]) ?_
      -- word not in the five
      refine ⟨_, rfl, by show 5 ≤ sizeLine; decide, fun p np => ⟨p, _, rfl, .inr (SqT.of upd_same), rfl, by decide, _, rfl, ?_⟩⟩
      have a1 : Adv [] H (upd H p (.tup [.str "no", .str "and", .str "or", .str "if", .str "box"])) := Adv.new np
      have e5 : inV (.str wd) [.str "no", .str "and", .str "or", .str "if", .str "box"] = fiveB wd := (inV_strs wd ["no", "and", "or", "if", "box"]).trans (by simp [fiveB, Bool.or_assoc])
      rw [if_pos (rfl : true = true), e5]
      cases h5 : fiveB wd with
      | false =>
        rw [no_items h5 hlet] at q
        exact iteY rfl (iteY rfl (q _ a1))
      | true =>
        rw [five_items h5] at q
        refine iteN rfl ?_
        refine ⟨_, rfl, rfl, _, rfl, ?_⟩
        have fals : (if some (if wd = "no" then 1 else if wd = "box" then 2 else 3) = some (ps.length + 1) then (if wd = "box" && !boxed then false else ps.all (isNum 0 (row - 1))) else false) = false → ∀ H', Adv [] H H' → Q (.bl false) H' := fun e H' a' => by
          have q' := q H' a'
          rw [e] at q'
          exact q'
        have go : (wd = "box" && !boxed) = false → ∀ H2, Adv [] H H2 → tSeq (tIfS (tTest (tOp rNe (tCB (fun xs H Q => ∃ p ys, xs = [.ref p] ∧ (SqL K H p ys ∨ SqT K H p ys) ∧ Q (.int ys.length) H) (tCons (tVar 0) tNil)) (tDGet2 (tDisp [(tC (.str "no"), tC (.int 1)), (tC (.str "box"), tC (.int 2))]) (tVar 3) (tC (.int 3))))) (tRet (tC (.bl false))) tNext)
            (tRet (tOp rEq (tCB (fun xs H Q => ∃ p ys, xs = [.ref p] ∧ (SqL K H p ys ∨ SqT K H p ys) ∧ Q (.int ys.length) H) (tCons (tLc (iTup K (tSl (rSlT K) (tVar 0) (tPart (tC (.int 1))) tNoPart)) (gName 4) (tNot (tB (tCall spIsBetween [] E0 (tCons (tVar 4) (tCons (tC (.int 0)) (tCons (tOp (rI0 fun i j => .int (i - j)) (tVar 1) (tC (.int 1))) tNil)))))) (tVar 4) [4]) tNil)) (tC (.int 0))))
            { nx := fun _ H' => Q .non H', rt := Q } [some (.ref a), some (.int row), some (.bl boxed), some (.str wd), none] H2 := fun hb H2 a2 => by
          have ha2 := htp.adv a2
          refine ⟨_, rfl, a, _, rfl, .inr (ha2.sq A.W), fun p2 np2 => ?_⟩
          refine ⟨upd_same, [((Sum.inr "no" : Key), V.int 1), (Sum.inr "box", V.int 2)], rfl, by decide, p2, rfl, .inl ⟨_, .inl upd_same⟩, _, rfl, _, DGet.k (k := Sum.inr wd) upd_same, ?_⟩
          rw [val_items]
          rw [upd_upd]
          have a3 : Adv [] H (upd H2 p2 (.dK (mergeK [] [((Sum.inr "no" : Key), V.int 1), (Sum.inr "box", V.int 2)]))) := a2.trans (Adv.new np2)
          refine ⟨rfl, _, rfl, ?_⟩
          by_cases hk : (if wd = "no" then 1 else if wd = "box" then 2 else 3) = ps.length + 1
          case neg =>
            refine iteY ?_ (fals (by rw [if_neg (fun z => hk (Option.some.inj z))]) _ a3)
            have : ¬ (V.int (((V.str wd :: rs).length : Nat) : Int) = V.int ((if wd = "no" then 1 else if wd = "box" then 2 else 3 : Nat) : Int)) := fun z => hk (by
              have z' := V.int.inj z
              rw [List.length_cons, hl2] at z'
              omega)
            rw [decide_eq_false this]
            rfl
          rw [if_pos (by rw [hk]), if_neg (by rw [hb]; decide)] at q
          refine iteN ?_ ?_
          · rw [hk, List.length_cons, hl2]
            simp
          have ha3 := htp.adv a3
          refine ⟨_, rfl, 1, rfl, a, _, rfl, ha3.sq A.W, ?_, fun p4 np4 => ?_⟩
          · intro z
            have z1 := z.1
            rw [show HT.sIx (V.str wd :: rs).length 0 (some 1) = min 1 (V.str wd :: rs).length from HT.sIx_nat _ 0 1, List.length_cons] at z1
            omega
          · rw [cut_from1]
            refine ⟨p4, rfl, ⟨_, SqT.of upd_same⟩, fun D nD => ?_⟩
            have aP := a3.trans (Adv.new (M := []) (o := .tup ((V.str wd :: rs).drop 1)) np4)
            refine lc_filtT (K := K) (a := p4) (xs := rs) (fun i => rs.getD i .non) (fun i => !isNum 0 (row - 1) (ps.getD i .none)) nD (SqT.of upd_same) ?_ ?_ ?_
            · have : ps.length ≤ 3 := by
                split at hk
                · omega
                · split at hk <;> omega
              omega
            · intro i x H' acc R R0 hx aH hD k k0
              have hip : i < ps.length := by rw [← hl2]; exact (List.getElem?_eq_some_iff.mp hx).1
              obtain ⟨dx, hdx, hisx⟩ := hps.getV hx
              have ed : ps.getD i .none = dx := by rw [List.getD_eq_getElem?_getD, hdx]; rfl
              have ex : rs.getD i .non = x := by rw [List.getD_eq_getElem?_getD, hx]; rfl
              refine ⟨rfl, x, rfl, _, rfl, row, 1, rfl, rfl, x, dx, 0, row - 1, rfl, (hisx.adv (aP.trans aH)), _, rfl, ?_⟩
              rw [ed] at k k0
              refine iteB (fun e1 => ?_) (fun e1 => k0 e1 H' hD aH)
              refine ⟨x, rfl, ?_⟩
              have k' := k e1 H' hD aH
              rw [ex] at k'
              exact k'
            · intro H' aH hD
              refine ⟨D, _, rfl, .inl (SqL.of hD), rfl, ?_⟩
              rw [filt_none (isNum 0 (row - 1)) ps rs.length hl2]
              exact q H' (aP.trans aH)
        by_cases hbx : wd = "box"
        · subst hbx
          refine iteY (by simp) ⟨_, rfl, _, rfl, ?_⟩
          cases boxed with
          | true => exact iteN rfl (go (by simp) _ a1)
          | false => exact iteY rfl (iteY rfl (fals (by simp) _ a1))
        · refine iteN (by simp [hbx]) ?_
          exact go (by simp [hbx]) _ a1
end

set_option Elab.async false
set_option linter.all false
set_option maxRecDepth 100000
set_option maxHeartbeats 4000000
open PySem PySem.Spec PyProof.Rows L2 LL
open C8 (pss_cut)
def resV : Option Int → V
  | some i => .int i
  | none => .non
theorem wrongF_at {most : Int} {boxed : Bool} {ds : List PyData} {i : Nat} {d : PyData} {seen : List (List Key)} (h : ds[i]? = some d) :
    wrongF most boxed i seen (ds.drop i) = if (i : Int) < most then (if nodeB boxed i d then (if memK (keysD d) seen = true then some (i : Int) else wrongF most boxed ((i + 1 : Nat) : Int) (seen ++ [keysD d]) (ds.drop (i + 1))) else some (i : Int)) else some (i : Int) := by
  obtain ⟨hi, e⟩ := List.getElem?_eq_some_iff.mp h
  rw [List.drop_eq_getElem_cons hi, e]
  rfl
theorem wrongF_end {most : Int} {boxed : Bool} {ds : List PyData} {seen : List (List Key)} {i : Nat} (h : i = ds.length) : wrongF most boxed i seen (ds.drop i) = none := by
  rw [h, List.drop_length]
  rfl
section
variable [KW]
variable {P : Program} {w : World} {K : PySem.W.Frag} {mg : Str → Option Value} {base : Heap}
def spWrongRow : Sp := fun vs H Q _ => ∃ (v : V) (d : PyData) (most : Int) (boxed : Bool), vs = [v, .int most, .bl boxed] ∧ Is [] H d v ∧ 0 ≤ most ∧ (∀ ds, d = .list ds → ds.length ≤ 1000000) ∧ ∀ H', Adv [] H H' → Q (resV (wrongD most boxed d)) H'
theorem no_list {d : PyData} {most : Int} {boxed : Bool} (h : ¬ ∃ ds, d = .list ds) : kitD d "list" = false ∧ wrongD most boxed d = some (-1) := by
  cases d with
  | list ds => exact absurd ⟨ds, rfl⟩ h
  | _ => exact ⟨by simp [kitD, tyN], rfl⟩
theorem ok_wrong_row (A : All K mg w) : FnOk P w K mg base CX0 4 A.wrong_row.f A.wrong_row.fd ["value", "most", "boxed"] spWrongRow := by
  refine A.wrong_row.F.ok sc_wrong_row (fun vs H Q E h => ?_) (fun cdv Ar outer s H vs Q E hr h => ?_)
  · obtain ⟨v, d, most, boxed, rfl, _⟩ := h
    rfl
  · obtain ⟨v, d, most, boxed, rfl, hv, h0, hz, q⟩ := h
    refine ⟨_, (pss_cons (ps_if (pt_not (pt_val (pe_callB call_isi (by rfl) A.T.isinstance (by decide +kernel) (pa_cons (pv 0) (pa_cons (pe_bltn (v := .ty "list") (by rfl) A.T.list (by decide +kernel) rfl) pa_nil)))))
    (pss_one (ps_ret (pe_un un_neg pe_int)))
    pss_nil)
  (pss_cons (ps_set (i := 3) sc_wrong_row.nd rfl (Or.inl rfl) (pe_dnewX A.W))
  (pss_cons (ps_for PassesOwn.never rfl (pi_enum (by rfl) A.T.enumerate (pa_cons (pv 0) pa_nil)) (pg_tup rfl (pgs_cons (pg_name (i := 4) sc_wrong_row.nd rfl (Or.inl rfl)) (pgs_cons (pg_name (i := 5) sc_wrong_row.nd rfl (Or.inl rfl)) pgs_nil)))
    (pss_cons (ps_if (PW.pt (pw_or (pt_cmpR op_ge (pv 4) (pv 1) (nomark _)) (pw_or (pt_not (pt_val (pe_call (ok_is_node A) (hr.mono (by omega)) rfl A.is_node.m A.is_node.F.kp A.is_node.b .nil pass0 (pa_cons (pv 5) (pa_cons (pv 4) (pa_cons (pv 2) pa_nil)))))) (pw_or1 (pt_cmp (pc_dinX A.W (hu_of hr) (pv 5) (pv 3)))))))
    (pss_one (ps_ret (pv 4)))
    pss_nil)
  (pss_one (ps_dputX A.W (hu_of hr) (pv 3) (pv 5) pe_bl rfl))))
  (pss_one (ps_ret pe_non))))), ?_⟩
    refine ⟨_, rfl, _, _, _, _, _, rfl, .ty _, hv.ty A.W, k_list d, _, rfl, ?_⟩
    by_cases ht : ∃ ds, d = .list ds
    case neg =>
      obtain ⟨e1, e2⟩ := no_list (most := most) (boxed := boxed) ht
      refine iteY (by rw [e1]; rfl) ⟨1, rfl, ?_⟩
      have q' := q H (Adv.refl _ _)
      rw [e2] at q'
      exact q'
    obtain ⟨ds, rfl⟩ := ht
    refine iteN (by simp [kitD, tyN]) ?_
    obtain ⟨a, vs, rfl, na, ha, hs⟩ := hv.lstE
    have hl := hs.len
    have hsz := hz ds rfl
    intro d hd
    refine ⟨_, rfl, a, vs, rfl, SqL.of (by rw [upd_ne (ne_of_none ha hd)]; exact ha), ?_⟩
    refine for_enum (K := K) (a := a) (xs := vs) (fun i σ' H' => ∃ (v4 v5 : Option V) (kvs : List (List Key × V)), σ' = [some (.ref a), some (.int most), some (.bl boxed), some (.ref d), v4, v5] ∧ Adv [] H H' ∧ Tab [d] H' d kvs ∧ kvs.length ≤ i ∧ wrongF most boxed 0 [] ds = wrongF most boxed i (kvs.map (·.1)) (ds.drop i))
      ⟨none, none, [], rfl, Adv.new hd, Tab.new upd_same, Nat.le_refl _, rfl⟩ (fun i σ' H' _ ⟨_, _, _, _, a', _⟩ => a'.same _ _ ha) ?_ ?_
    · rintro i x T σ' H' hx ⟨v4, v5, kvs, rfl, a', hk, hkl, hw⟩ nT
      obtain ⟨dx, hdx, hisx⟩ := hs.getV hx
      rw [wrongF_at hdx] at hw
      have hi : i < ds.length := (List.getElem?_eq_some_iff.mp hdx).1
      refine ⟨T, _, rfl, SqT.of upd_same, rfl, _, _, rfl, _, _, rfl, rfl, ?_⟩
      have aT : Adv [] H (upd H' T (.tup [.int (i : Nat), x])) := a'.trans (Adv.new nT)
      have hkT : Tab [d] (upd H' T (.tup [.int (i : Nat), x])) d kvs := hk.same (Adv.new nT)
      refine ⟨_, rfl, _, rfl, (i : Int), most, rfl, rfl, _, rfl, ?_⟩
      by_cases hm : (i : Int) < most
      case neg =>
        rw [if_neg hm] at hw
        refine iteY (decide_eq_true (by omega)) (iteY rfl ⟨_, rfl, ?_⟩)
        have q' := q _ aT
        rw [show wrongD most boxed (.list ds) = wrongF most boxed 0 [] ds from rfl, hw] at q'
        exact q'
      rw [if_pos hm] at hw
      refine iteN (decide_eq_false (by omega)) ?_
      refine ⟨x, rfl, _, rfl, _, rfl, x, dx, (i : Int), boxed, rfl, hisx.adv aT, fun H3 a3 => ⟨_, rfl, ?_⟩⟩
      cases hn : nodeB boxed i dx with
      | false =>
        rw [if_neg (by rw [hn]; decide)] at hw
        refine iteY rfl (iteY rfl ⟨_, rfl, ?_⟩)
        have q' := q _ (aT.trans a3)
        rw [show wrongD most boxed (.list ds) = wrongF most boxed 0 [] ds from rfl, hw] at q'
        exact q'
      | true =>
        rw [if_pos hn] at hw
        refine iteN rfl ?_
        have hk3 := hkT.same a3
        obtain ⟨b, rfl, hb⟩ := node_keys ((hisx.fresh hd).adv ((aT.trans a3).more (by simp))) hn
        refine ⟨_, rfl, _, rfl, d, _, rfl, hk3.get A.W hb, _, rfl, ?_⟩
        rw [val_mem]
        cases hm2 : memK (keysD dx) (kvs.map (·.1)) with
        | true =>
          rw [if_pos hm2] at hw
          refine iteY rfl ⟨_, rfl, ?_⟩
          have q' := q _ (aT.trans a3)
          rw [show wrongD most boxed (.list ds) = wrongF most boxed 0 [] ds from rfl, hw] at q'
          exact q'
        | false =>
          rw [if_neg (by rw [hm2]; decide)] at hw
          refine iteN rfl ?_
          obtain ⟨o, hg, t2⟩ := hk3.putH A.W (by simp) hb (by rw [sizeLine_eq]; omega) (.bl true)
          refine ⟨_, rfl, _, rfl, d, _, rfl, hg, ?_⟩
          rw [put_new _ _ _ hm2] at t2
          refine ⟨_, _, _, rfl, (aT.trans a3).mut hd, t2, by rw [List.length_append, List.length_singleton]; omega, ?_⟩
          rw [hw, List.map_append]
          rfl
    · rintro σ' H' ⟨v4, v5, kvs, rfl, a', hk, hkl, hw⟩
      rw [wrongF_end hl] at hw
      have q' := q _ a'
      rw [show wrongD most boxed (.list ds) = wrongF most boxed 0 [] ds from rfl, hw] at q'
      exact q'
theorem ok_law_wrong_row (A : All K mg w) : FnOk P w K mg base CX0 3 A.law_wrong_row.f A.law_wrong_row.fd ["value", "most", "boxed"] spWrongRow := by
  refine A.law_wrong_row.F.ok sc_law_wrong_row (fun vs H Q E h => ?_) (fun cdv Ar outer s H vs Q E hr h => ?_)
  · obtain ⟨v, d, most, boxed, rfl, _⟩ := h
    rfl
  · obtain ⟨v, d, most, boxed, rfl, hv, h0, hz, q⟩ := h
    refine ⟨_, (pss_cons (ps_if (pt_not (pt_val (pe_callB call_isi (by rfl) A.T.isinstance (by decide +kernel) (pa_cons (pv 0) (pa_cons (pe_bltn (v := .ty "list") (by rfl) A.T.list (by decide +kernel) rfl) pa_nil)))))
    (pss_one (ps_ret (pe_un un_neg pe_int)))
    pss_nil)
  (pss_cons (ps_set (i := 3) sc_law_wrong_row.nd rfl (Or.inl rfl) (pe_dnewX A.W))
  (pss_cons (ps_for PassesOwn.never rfl (pi_range1 rfl A.T.range (pa_cons (pe_callB call_len_seq (by rfl) A.T.len PySem.boot_len (pa_cons (pv 0) pa_nil)) pa_nil)) (pg_name (i := 4) sc_law_wrong_row.nd rfl (Or.inl rfl))
    (pss_cons (ps_if (PW.pt (pw_or (pt_cmpR op_eq (pv 4) (pv 1) (nomark _)) (pw_or (pt_not (pt_val (pe_call (ok_law_is_node A) (hr.mono (by omega)) rfl A.law_is_node.m A.law_is_node.F.kp A.law_is_node.b .nil pass0 (pa_cons (pe_ix ix_list (pv 0) (pv 4) (fun _ _ => rfl)) (pa_cons (pv 4) (pa_cons (pv 2) pa_nil)))))) (pw_or1 (pt_cmp (pc_dinX A.W (hu_of hr) (pe_ix ix_list (pv 0) (pv 4) (fun _ _ => rfl)) (pv 3)))))))
    (pss_one (ps_ret (pv 4)))
    pss_nil)
  (pss_one (ps_dputX A.W (hu_of hr) (pv 3) (pe_ix ix_list (pv 0) (pv 4) (fun _ _ => rfl)) (pv 4) rfl))))
  (pss_one (ps_ret pe_non))))), ?_⟩
    refine ⟨_, rfl, _, _, _, _, _, rfl, .ty _, hv.ty A.W, k_list d, _, rfl, ?_⟩
    by_cases ht : ∃ ds, d = .list ds
    case neg =>
      obtain ⟨e1, e2⟩ := no_list (most := most) (boxed := boxed) ht
      refine iteY (by rw [e1]; rfl) ⟨1, rfl, ?_⟩
      have q' := q H (Adv.refl _ _)
      rw [e2] at q'
      exact q'
    obtain ⟨ds, rfl⟩ := ht
    refine iteN (by simp [kitD, tyN]) ?_
    obtain ⟨a, vs, rfl, na, ha, hs⟩ := hv.lstE
    have hl := hs.len
    have hsz := hz ds rfl
    intro d hd
    have had : (upd H d (dxo d [])) a = some (.lst vs) := by rw [upd_ne (ne_of_none ha hd)]; exact ha
    refine ⟨_, rfl, a, vs, rfl, .inl (SqL.of had), _, rfl, by omega, by omega, ?_⟩
    refine for_range (lo := 0) (n := (vs.length : Int).toNat) (fun i σ' H' => ∃ (v4 : Option V) (kvs : List (List Key × V)), σ' = [some (.ref a), some (.int most), some (.bl boxed), some (.ref d), v4] ∧ Adv [] H H' ∧ Tab [d] H' d kvs ∧ kvs.length ≤ i ∧ (i : Int) ≤ most ∧ wrongF most boxed 0 [] ds = wrongF most boxed i (kvs.map (·.1)) (ds.drop i))
      ⟨none, [], rfl, Adv.new hd, Tab.new upd_same, Nat.le_refl _, h0, rfl⟩ ?_ ?_
    · rintro i σ' H' hi ⟨v4, kvs, rfl, a', hk, hkl, him, hw⟩
      have hi2 : i < vs.length := by omega
      obtain ⟨dx, hdx, hisx⟩ := hs.getV (List.getElem?_eq_getElem hi2)
      rw [wrongF_at hdx] at hw
      have ha' := a'.same _ _ ha
      have e0 : (0 : Int) + (i : Int) = (i : Int) := by omega
      rw [e0]
      refine ⟨_, rfl, _, rfl, rfl, _, rfl, ?_⟩
      by_cases hm : (i : Int) < most
      case neg =>
        rw [if_neg hm] at hw
        have e1 : (i : Int) = most := by omega
        refine iteY (by rw [e1]; simp) (iteY rfl ⟨_, rfl, ?_⟩)
        have q' := q _ a'
        rw [show wrongD most boxed (.list ds) = wrongF most boxed 0 [] ds from rfl, hw] at q'
        exact q'
      rw [if_pos hm] at hw
      have ne1 : ¬ (i : Int) = most := by omega
      refine iteN (by simp [ne1]) ?_
      refine ⟨_, rfl, _, rfl, a, vs, (i : Int), _, rfl, rfl, SqL.of ha', atI_nat (List.getElem?_eq_getElem hi2), _, rfl, _, rfl, _, dx, (i : Int), boxed, rfl, hisx.adv a', fun H3 a3 => ⟨_, rfl, ?_⟩⟩
      cases hn : nodeB boxed i dx with
      | false =>
        rw [if_neg (by rw [hn]; decide)] at hw
        refine iteY rfl (iteY rfl ⟨_, rfl, ?_⟩)
        have q' := q _ (a'.trans a3)
        rw [show wrongD most boxed (.list ds) = wrongF most boxed 0 [] ds from rfl, hw] at q'
        exact q'
      | true =>
        rw [if_pos hn] at hw
        refine iteN rfl ?_
        have hk3 := hk.same a3
        have ha3 := a3.same _ _ ha'
        obtain ⟨b, eb, hb⟩ := node_keys ((hisx.fresh hd).adv ((a'.trans a3).more (by simp))) hn
        refine ⟨_, rfl, _, rfl, a, vs, (i : Int), _, rfl, rfl, SqL.of ha3, atI_nat (List.getElem?_eq_getElem hi2), ?_⟩
        rw [eb]
        refine ⟨_, rfl, d, _, rfl, hk3.get A.W hb, _, rfl, ?_⟩
        rw [val_mem]
        cases hm2 : memK (keysD dx) (kvs.map (·.1)) with
        | true =>
          rw [if_pos hm2] at hw
          refine iteY rfl ⟨_, rfl, ?_⟩
          have q' := q _ (a'.trans a3)
          rw [show wrongD most boxed (.list ds) = wrongF most boxed 0 [] ds from rfl, hw] at q'
          exact q'
        | false =>
          rw [if_neg (by rw [hm2]; decide)] at hw
          refine iteN rfl ?_
          refine ⟨_, rfl, _, rfl, _, rfl, _, rfl, a, vs, (i : Int), _, rfl, rfl, SqL.of ha3, atI_nat (List.getElem?_eq_getElem hi2), ?_⟩
          rw [eb]
          obtain ⟨o, hg, t2⟩ := hk3.putH A.W (by simp) hb (by rw [sizeLine_eq]; omega) (.int (i : Nat))
          refine ⟨d, _, rfl, hg, ?_⟩
          rw [put_new _ _ _ hm2] at t2
          refine ⟨_, _, rfl, (a'.trans a3).mut hd, t2, by rw [List.length_append, List.length_singleton]; omega, by omega, ?_⟩
          rw [hw, List.map_append]
          rfl
    · rintro σ' H' ⟨v4, kvs, rfl, a', hk, hkl, him, hw⟩
      rw [wrongF_end (show (vs.length : Int).toNat = ds.length by omega)] at hw
      have q' := q _ a'
      rw [show wrongD most boxed (.list ds) = wrongF most boxed 0 [] ds from rfl, hw] at q'
      exact q'
end

set_option Elab.async false
set_option linter.all false
set_option maxRecDepth 100000
set_option maxHeartbeats 4000000
open PySem PySem.Spec PyProof.Rows L2 LL
open C8 (pss_cut)
def prD (d : PyData) : PyData := .tuple [d, d]
section
variable [KW]
variable {P : Program} {w : World} {K : PySem.W.Frag} {mg : Str → Option Value} {base : Heap}
def spSame : Sp := fun vs H Q _ => ∃ (v1 v2 : V) (d : PyData), vs = [v1, v2] ∧ Is [] H d v1 ∧ Is [] H d v2 ∧ sz d ≤ 1000000 ∧ ∀ H', Adv [] H H' → Q (.bl true) H'
theorem ok_law_same (A : All K mg w) : FnOk P w K mg base CX0 1 A.law_same.f A.law_same.fd ["actual", "due"] spSame := by
  refine A.law_same.F.ok sc_law_same (fun vs H Q E h => ?_) (fun cdv Ar outer s H vs Q E hr h => ?_)
  · obtain ⟨v1, v2, d, rfl, _⟩ := h
    rfl
  · obtain ⟨v1, v2, d0, rfl, h1, h2, hz, q⟩ := h
    refine ⟨_, (pss_cons (ps_set (i := 2) sc_law_same.nd rfl (Or.inl rfl) (pe_lst (pa_cons (pe_tup (pa_cons (pv 0) (pa_cons (pv 1) pa_nil))) pa_nil)))
  (pss_cons (ps_for PassesOwn.never rfl (pi_range1 rfl A.T.range (pa_cons pe_int pa_nil)) (pg_name (i := 3) sc_law_same.nd rfl (Or.inl rfl))
    (pss_cons (ps_if (pt_cmpR op_eq (pe_callB call_len_seq (by rfl) A.T.len PySem.boot_len (pa_cons (pv 2) pa_nil)) pe_int (nomark _))
    (pss_one (ps_ret pe_bl))
    pss_nil)
  (pss_cons (ps_asg (pe_bm0 PySem.F.plainAttrs_list PySem.F.slot_list_pop PySem.F.type_list_pop mt_pop (pv 2)) (pg_tup rfl (pgs_cons (pg_name (i := 4) sc_law_same.nd rfl (Or.inr rfl)) (pgs_cons (pg_name (i := 5) sc_law_same.nd rfl (Or.inr rfl)) pgs_nil))))
  (pss_one (ps_if (PW.pt (pw_or (pt_val (pe_callB call_isi (by rfl) A.T.isinstance (by decide +kernel) (pa_cons (pv 5) (pa_cons (pe_bltn (v := .ty "tuple") (by rfl) A.T.tuple (by decide +kernel) rfl) pa_nil)))) (pw_or1 (pt_val (pe_callB call_isi (by rfl) A.T.isinstance (by decide +kernel) (pa_cons (pv 5) (pa_cons (pe_bltn (v := .ty "list") (by rfl) A.T.list (by decide +kernel) rfl) pa_nil)))))))
    (pss_cons (ps_if (PW.pt (pw_or (pt_cmpR op_ne (pe_callB call_isi (by rfl) A.T.isinstance (by decide +kernel) (pa_cons (pv 5) (pa_cons (pe_bltn (v := .ty "tuple") (by rfl) A.T.tuple (by decide +kernel) rfl) pa_nil))) (pe_callB call_isi (by rfl) A.T.isinstance (by decide +kernel) (pa_cons (pv 4) (pa_cons (pe_bltn (v := .ty "tuple") (by rfl) A.T.tuple (by decide +kernel) rfl) pa_nil))) (nomark _)) (pw_or (pt_cmpR op_ne (pe_callB call_isi (by rfl) A.T.isinstance (by decide +kernel) (pa_cons (pv 5) (pa_cons (pe_bltn (v := .ty "list") (by rfl) A.T.list (by decide +kernel) rfl) pa_nil))) (pe_callB call_isi (by rfl) A.T.isinstance (by decide +kernel) (pa_cons (pv 4) (pa_cons (pe_bltn (v := .ty "list") (by rfl) A.T.list (by decide +kernel) rfl) pa_nil))) (nomark _)) (pw_or1 (pt_cmpR op_ne (pe_callB (call_or call_len_seq call_lenD) (by rfl) A.T.len PySem.boot_len (pa_cons (pv 4) pa_nil)) (pe_callB (call_or call_len_seq call_lenD) (by rfl) A.T.len PySem.boot_len (pa_cons (pv 5) pa_nil)) (nomark _))))))
    (pss_one (ps_ret pe_bl))
    pss_nil)
  (pss_one (ps_expr (pe_bm PySem.F.plainAttrs_list PySem.F.slot_list_extend PySem.F.type_list_extend mt_extend (pv 2) (pa_cons (pe_lc (own := [("at", 6)]) (g := (gName 6)) rfl sc_law_same.nd (pi_range1 rfl A.T.range (pa_cons (pe_callB (call_or call_len_seq call_lenD) (by rfl) A.T.len PySem.boot_len (pa_cons (pv 5) pa_nil)) pa_nil)) (blkOk_by (own := [("at", 6)]) (N := ["actual", "due", "left", "turn", "one", "other", "at", "key"]) (sc := defScope s_law_same) (by decide +kernel)) (fun _ _ _ _ _ => pg_name (i := 6) sc_law_same.nd rfl (Or.inl rfl)) (fun _ _ _ _ _ => pts_nil) (fun _ _ _ _ _ => (pe_tup (pa_cons (pe_ix (ix_any K rfl) (pv 4) (pv 6) (fun _ _ => rfl)) (pa_cons (pe_ix (ix_any K rfl) (pv 5) (pv 6) (fun _ _ => rfl)) pa_nil))))) pa_nil)))))
    (pss_one (ps_if (pt_val (pe_callB call_isi (by rfl) A.T.isinstance (by decide +kernel) (pa_cons (pv 5) (pa_cons (pe_bltn (v := .ty "dict") (by rfl) A.T.dict (by decide +kernel) rfl) pa_nil))))
    (pss_cons (ps_if (PW.pt (pw_or (pt_not (pt_val (pe_callB call_isi (by rfl) A.T.isinstance (by decide +kernel) (pa_cons (pv 4) (pa_cons (pe_bltn (v := .ty "dict") (by rfl) A.T.dict (by decide +kernel) rfl) pa_nil))))) (pw_or (pt_cmpR op_ne (pe_callB (call_or call_len_seq call_lenD) (by rfl) A.T.len PySem.boot_len (pa_cons (pv 4) pa_nil)) (pe_callB (call_or call_len_seq call_lenD) (by rfl) A.T.len PySem.boot_len (pa_cons (pv 5) pa_nil)) (nomark _)) (pw_or1 (pt_cmpR op_gt (pe_callB call_len_seq (by rfl) A.T.len PySem.boot_len (pa_cons (pe_lock (pe_lc (own := [("key", 7)]) (g := gName 7) rfl sc_law_same.nd (pi_keys (pv 5)) (blkOk_by (own := [("key", 7)]) (N := ["actual", "due", "left", "turn", "one", "other", "at", "key"]) (sc := defScope s_law_same) (by decide +kernel)) (fun _ _ _ _ _ => pg_name (i := 7) sc_law_same.nd rfl (Or.inl rfl)) (fun _ _ _ _ _ => pts_one pt_never) (fun _ _ _ _ _ => pe_never))) pa_nil)) pe_int (nomark _))))))
    (pss_one (ps_ret pe_bl))
    pss_nil)
  (pss_one (ps_expr (pe_bm PySem.F.plainAttrs_list PySem.F.slot_list_extend PySem.F.type_list_extend mt_extend (pv 2) (pa_cons (pe_lock (pe_lc (own := [("key", 7)]) (g := gName 7) rfl sc_law_same.nd (pi_keys (pv 5)) (blkOk_by (own := [("key", 7)]) (N := ["actual", "due", "left", "turn", "one", "other", "at", "key"]) (sc := defScope s_law_same) (by decide +kernel)) (fun _ _ _ _ _ => pg_name (i := 7) sc_law_same.nd rfl (Or.inl rfl)) (fun _ _ _ _ _ => pts_nil) (fun _ _ _ _ _ => pe_never))) pa_nil)))))
    (pss_one (ps_if (PW.pt (pw_or (pt_val (pe_callB call_isi (by rfl) A.T.isinstance (by decide +kernel) (pa_cons (pv 5) (pa_cons (pe_bltn (v := .ty "bool") (by rfl) A.T.bool (by decide +kernel) rfl) pa_nil)))) (pw_or1 (pt_val (pe_callB call_isi (by rfl) A.T.isinstance (by decide +kernel) (pa_cons (pv 5) (pa_cons (pe_bltn (v := .ty "str") (by rfl) A.T.str (by decide +kernel) rfl) pa_nil)))))))
    (pss_one (ps_if (PW.pt (pw_or (pt_cmpR op_ne (pe_callB call_isi (by rfl) A.T.isinstance (by decide +kernel) (pa_cons (pv 4) (pa_cons (pe_bltn (v := .ty "bool") (by rfl) A.T.bool (by decide +kernel) rfl) pa_nil))) (pe_callB call_isi (by rfl) A.T.isinstance (by decide +kernel) (pa_cons (pv 5) (pa_cons (pe_bltn (v := .ty "bool") (by rfl) A.T.bool (by decide +kernel) rfl) pa_nil))) (nomark _)) (pw_or (pt_cmpR op_ne (pe_callB call_isi (by rfl) A.T.isinstance (by decide +kernel) (pa_cons (pv 4) (pa_cons (pe_bltn (v := .ty "str") (by rfl) A.T.str (by decide +kernel) rfl) pa_nil))) (pe_callB call_isi (by rfl) A.T.isinstance (by decide +kernel) (pa_cons (pv 5) (pa_cons (pe_bltn (v := .ty "str") (by rfl) A.T.str (by decide +kernel) rfl) pa_nil))) (nomark _)) (pw_or1 (pt_cmpR op_ne (pv 4) (pv 5) (nomark _))))))
    (pss_one (ps_ret pe_bl))
    pss_nil))
    (pss_one (ps_if (pt_val (pe_callB call_isi (by rfl) A.T.isinstance (by decide +kernel) (pa_cons (pv 5) (pa_cons (pe_bltn (v := .ty "int") (by rfl) A.T.int (by decide +kernel) rfl) pa_nil))))
    (pss_one (ps_if (PW.pt (pw_or (pt_not (pt_val (pe_callB call_isi (by rfl) A.T.isinstance (by decide +kernel) (pa_cons (pv 4) (pa_cons (pe_bltn (v := .ty "int") (by rfl) A.T.int (by decide +kernel) rfl) pa_nil))))) (pw_or (pt_val (pe_callB call_isi (by rfl) A.T.isinstance (by decide +kernel) (pa_cons (pv 4) (pa_cons (pe_bltn (v := .ty "bool") (by rfl) A.T.bool (by decide +kernel) rfl) pa_nil)))) (pw_or1 (pt_cmpR op_ne (pv 4) (pv 5) (nomark _))))))
    (pss_one (ps_ret pe_bl))
    pss_nil))
    (pss_one (ps_if (pt_cmpR op_notN (pv 4) pe_non (nomark _))
    (pss_one (ps_ret pe_bl))
    pss_nil)))))))))))))
  (pss_one (ps_ret pe_bl)))), ?_⟩
    refine ⟨_, rfl, _, rfl, by show 2 ≤ sizeLine; decide, fun t nt => ⟨by show 1 ≤ sizeLine; decide, fun L nL => ?_⟩⟩
    have nL0 : H L = none := by
      by_cases e : L = t
      · rw [e]; exact nt
      · rw [upd_ne e] at nL; exact nL
    have ntL : t ≠ L := fun z => by rw [← z, upd_same] at nL; cases nL
    have aI : Adv [] H (upd (upd H t (.tup [v1, v2])) L (.lst [.ref t])) := (Adv.new nt).trans (Adv.new nL)
    refine ⟨2000000, rfl, by decide, by decide, for_range (lo := 0) (n := (2000000 : Int).toNat) (fun i σ' H' => ∃ (ds : List PyData) (vs : List V) (x3 x4 x5 : Option V), σ' = [some v1, some v2, some (.ref L), x3, x4, x5, none, none] ∧ Adv [] H H' ∧ H' L = some (.lst vs) ∧ IsDs [L] H' (ds.map prD) vs ∧ szL ds + i ≤ 1000000)
      ⟨[d0], [.ref t], none, none, none, rfl, aI, upd_same, ?_, ?_⟩ ?_ ?_⟩
    · have f1 := ((h1.fresh nL0).less (N := [L]) (by simp)).adv (aI.more (by simp))
      have f2 := ((h2.fresh nL0).less (N := [L]) (by simp)).adv (aI.more (by simp))
      exact IsDs.one (Is.tup (by rw [upd_ne ntL, upd_same]) (by simpa using ntL) (.cons f1 (IsDs.one f2)))
    · rw [szL_cons, szL_nil]
      omega
    · rintro i σ' H' hi ⟨ds, vs, x3, x4, x5, rfl, a', hL, hds, hsz⟩
      refine ⟨_, rfl, L, vs, rfl, .inl (SqL.of hL), rfl, _, rfl, ?_⟩
      rcases List.eq_nil_or_concat ds with rfl | ⟨ds', d, rfl⟩
      · have e0 : vs = [] := by unfold IsDs at hds; exact hds
        subst e0
        exact iteY rfl (q _ a')
      rw [List.concat_eq_append] at hds hsz
      rw [List.map_append] at hds
      obtain ⟨ws, v, rfl, hws, hv⟩ := IsDs.last (d := prD d) hds
      refine iteN (by simp; omega) ?_
      refine ⟨_, rfl, .inl ⟨rfl, _, SqL.of hL⟩, L, ws ++ [v], v, rfl, rfl, hL, by simp, ?_⟩
      rw [List.dropLast_concat]
      obtain ⟨tp, u1, u2, rfl, htp, hu1, hu2⟩ := hv.pair
      have aL : Adv [L] H' (upd H' L (.lst ws)) := Adv.set (by simp)
      have a2 : Adv [] H (upd H' L (.lst ws)) := a'.mut nL0
      have htp2 := htp.adv aL
      replace hu1 := hu1.adv aL
      replace hu2 := hu2.adv aL
      replace hws := hws.adv aL
      have hL2 : (upd H' L (.lst ws)) L = some (.lst ws) := upd_same
      have hwl := hws.len
      rw [szL_app, szL_cons, szL_nil] at hsz
      have szle : ∀ l : List PyData, l.length ≤ szL l := fun l => by
        induction l with
        | nil => exact Nat.zero_le _
        | cons c r ih =>
          rw [szL_cons, List.length_cons]
          have := sz_pos c
          omega
      have hdl := szle ds'
      rw [List.length_map] at hwl
      generalize upd H' L (.lst ws) = H2 at *
      have fin : ∀ (x3 x4 x5 : Option V) (H3 : Hp), Adv [] H2 H3 → ∃ (ds : List PyData) (vs : List V) (y3 y4 y5 : Option V), [some v1, some v2, some (.ref L), x3, x4, x5, none, none] = [some v1, some v2, some (.ref L), y3, y4, y5, none, none] ∧ Adv [] H H3 ∧ H3 L = some (.lst vs) ∧ IsDs [L] H3 (ds.map prD) vs ∧ szL ds + (i + 1) ≤ 1000000 := fun x3 x4 x5 H3 a3 =>
        ⟨ds', ws, x3, x4, x5, rfl, a2.trans a3, a3.same _ _ hL2, hws.adv (a3.more (by simp)), by have := sz_pos d; omega⟩
      refine ⟨tp, [u1, u2], rfl, htp2.sq A.W, rfl, _, _, rfl, _, _, rfl, rfl, ?_⟩
      cases d with
      | list cs =>
        refine ⟨_, rfl, _, _, _, _, _, rfl, .ty _, hu2.ty A.W, k_tuple _, _, rfl, ?_⟩
        refine iteN (by simp [kitD, tyN]) ?_
        refine ⟨_, rfl, _, _, _, _, _, rfl, .ty _, hu2.ty A.W, k_list _, _, rfl, iteY (by simp [kitD, tyN]) ?_⟩
        obtain ⟨b1, r1, rfl, nb1, hb1, hr1⟩ := hu1.lstE
        obtain ⟨b2, r2, rfl, nb2, hb2, hr2⟩ := hu2.lstE
        have hl1 := hr1.len
        have hl2 := hr2.len
        have szc : sz (.list cs) = 1 + szL cs := by rw [sz]
        have hcl := szle cs
        refine ⟨_, rfl, _, _, _, _, _, rfl, .ty _, hu2.ty A.W, k_tuple _, _, rfl, _, _, _, _, _, rfl, .ty _, hu1.ty A.W, k_tuple _, rfl, _, rfl, iteN (by simp) ?_⟩
        refine ⟨_, rfl, _, _, _, _, _, rfl, .ty _, hu2.ty A.W, k_list _, _, rfl, _, _, _, _, _, rfl, .ty _, hu1.ty A.W, k_list _, rfl, _, rfl, iteN (by simp) ?_⟩
        refine ⟨_, rfl, .inl ⟨b1, r1, rfl, .inl (SqL.of hb1), _, rfl, .inl ⟨b2, r2, rfl, .inl (SqL.of hb2), rfl, _, rfl, iteN (by simp [hl1, hl2]) ?_⟩⟩⟩
        refine ⟨_, rfl, .inl ⟨rfl, _, SqL.of hL2⟩, _, rfl, .inl ⟨b2, r2, rfl, .inl (SqL.of hb2), (r2.length : Int), rfl, by omega, by omega, fun D nD => ?_⟩⟩
        refine lc_dataR (M := [L]) (n := (r2.length : Int).toNat) (cs.map prD) (by simp [hl2]) nD (by simp [hl2]; omega) ?_ ?_
        · intro j dj H3 acc R hj a3 hD k
          have hjl : j < cs.length := by
            have := (List.getElem?_eq_some_iff.mp hj).1
            simpa using this
          have e0 : (0 : Int) + (j : Nat) = (j : Int) := by omega
          rw [e0]
          obtain ⟨w1, hw1, iw1⟩ := hr1.get (List.getElem?_eq_getElem hjl)
          obtain ⟨w2, hw2, iw2⟩ := hr2.get (List.getElem?_eq_getElem hjl)
          have ed : prD cs[j] = dj := by simpa [hjl] using hj
          refine ⟨rfl, _, rfl, _, rfl, .inl ⟨b1, r1, (j : Int), w1, rfl, rfl, SqL.of (a3.same _ _ hb1), atI_nat hw1, _, rfl, _, rfl, .inl ⟨b2, r2, (j : Int), w2, rfl, rfl, SqL.of (a3.same _ _ hb2), atI_nat hw2, by show 2 ≤ sizeLine; decide, fun T nT => ?_⟩⟩⟩
          have nDT : T ≠ D := (ne_of_none hD nT).symm
          have nLT : T ≠ L := (ne_of_none (a3.same _ _ hL2) nT).symm
          refine k _ _ (by rw [upd_ne nDT.symm]; exact hD) (Adv.new nT) ?_
          rw [← ed]
          have aa : Adv [D, L] H2 (upd H3 T (.tup [w1, w2])) := (a3.more (by simp)).trans (Adv.new nT)
          have g1 : Is [D, L] H2 cs[j] w1 := iw1.fresh nD
          have g2 : Is [D, L] H2 cs[j] w2 := iw2.fresh nD
          exact Is.tup upd_same (by simp [nDT, nLT]) (.cons (g1.adv aa) (IsDs.one (g2.adv aa)))
        · intro H3 acc a3 hD hacc
          have hal := hacc.len
          rw [List.length_map] at hal
          have hL3 := a3.same _ _ hL2
          have nDL : D ≠ L := (ne_of_none hL2 nD).symm
          refine ⟨L, D, ws, acc, rfl, rfl, hL3, hD, by rw [sizeLine_eq]; omega, ?_⟩
          refine ⟨ds' ++ cs, ws ++ acc, _, _, _, rfl, (a2.trans a3).mut nL0, upd_same, ?_, ?_⟩
          · rw [List.map_append]
            exact ((hws.adv (a3.more (by simp))).adv (Adv.set (by simp))).app ((hacc.less (by simp)).adv (Adv.set (by simp)))
          · rw [szL_app]
            omega
      | tuple cs =>
        refine ⟨_, rfl, _, _, _, _, _, rfl, .ty _, hu2.ty A.W, k_tuple _, _, rfl, ?_⟩
        refine iteY (by simp [kitD, tyN]) (iteY rfl ?_)
        obtain ⟨b1, r1, rfl, hb1, hr1⟩ := hu1.tupE
        obtain ⟨b2, r2, rfl, hb2, hr2⟩ := hu2.tupE
        have hl1 := hr1.len
        have hl2 := hr2.len
        have szc : sz (.tuple cs) = 1 + szL cs := by rw [sz]
        have hcl := szle cs
        refine ⟨_, rfl, _, _, _, _, _, rfl, .ty _, hu2.ty A.W, k_tuple _, _, rfl, _, _, _, _, _, rfl, .ty _, hu1.ty A.W, k_tuple _, rfl, _, rfl, iteN (by simp) ?_⟩
        refine ⟨_, rfl, _, _, _, _, _, rfl, .ty _, hu2.ty A.W, k_list _, _, rfl, _, _, _, _, _, rfl, .ty _, hu1.ty A.W, k_list _, rfl, _, rfl, iteN (by simp) ?_⟩
        refine ⟨_, rfl, .inl ⟨b1, r1, rfl, .inr (hb1.sq A.W), _, rfl, .inl ⟨b2, r2, rfl, .inr (hb2.sq A.W), rfl, _, rfl, iteN (by simp [hl1, hl2]) ?_⟩⟩⟩
        refine ⟨_, rfl, .inl ⟨rfl, _, SqL.of hL2⟩, _, rfl, .inl ⟨b2, r2, rfl, .inr (hb2.sq A.W), (r2.length : Int), rfl, by omega, by omega, fun D nD => ?_⟩⟩
        refine lc_dataR (M := [L]) (n := (r2.length : Int).toNat) (cs.map prD) (by simp [hl2]) nD (by simp [hl2]; omega) ?_ ?_
        · intro j dj H3 acc R hj a3 hD k
          have hjl : j < cs.length := by
            have := (List.getElem?_eq_some_iff.mp hj).1
            simpa using this
          have e0 : (0 : Int) + (j : Nat) = (j : Int) := by omega
          rw [e0]
          obtain ⟨w1, hw1, iw1⟩ := hr1.get (List.getElem?_eq_getElem hjl)
          obtain ⟨w2, hw2, iw2⟩ := hr2.get (List.getElem?_eq_getElem hjl)
          have ed : prD cs[j] = dj := by simpa [hjl] using hj
          refine ⟨rfl, _, rfl, _, rfl, .inr ⟨b1, r1, (j : Int), w1, rfl, rfl, (hb1.adv (Adv.nil a3)).sq A.W, atI_nat hw1, _, rfl, _, rfl, .inr ⟨b2, r2, (j : Int), w2, rfl, rfl, (hb2.adv (Adv.nil a3)).sq A.W, atI_nat hw2, by show 2 ≤ sizeLine; decide, fun T nT => ?_⟩⟩⟩
          have nDT : T ≠ D := (ne_of_none hD nT).symm
          have nLT : T ≠ L := (ne_of_none (a3.same _ _ hL2) nT).symm
          refine k _ _ (by rw [upd_ne nDT.symm]; exact hD) (Adv.new nT) ?_
          rw [← ed]
          have aa : Adv [D, L] H2 (upd H3 T (.tup [w1, w2])) := (a3.more (by simp)).trans (Adv.new nT)
          have g1 : Is [D, L] H2 cs[j] w1 := iw1.fresh nD
          have g2 : Is [D, L] H2 cs[j] w2 := iw2.fresh nD
          exact Is.tup upd_same (by simp [nDT, nLT]) (.cons (g1.adv aa) (IsDs.one (g2.adv aa)))
        · intro H3 acc a3 hD hacc
          have hal := hacc.len
          rw [List.length_map] at hal
          have hL3 := a3.same _ _ hL2
          have nDL : D ≠ L := (ne_of_none hL2 nD).symm
          refine ⟨L, D, ws, acc, rfl, rfl, hL3, hD, by rw [sizeLine_eq]; omega, ?_⟩
          refine ⟨ds' ++ cs, ws ++ acc, _, _, _, rfl, (a2.trans a3).mut nL0, upd_same, ?_, ?_⟩
          · rw [List.map_append]
            exact ((hws.adv (a3.more (by simp))).adv (Adv.set (by simp))).app ((hacc.less (by simp)).adv (Adv.set (by simp)))
          · rw [szL_app]
            omega
      | dict kvs =>
        refine ⟨_, rfl, _, _, _, _, _, rfl, .ty _, hu2.ty A.W, k_tuple _, _, rfl, iteN (by simp [kitD, tyN]) ?_⟩
        refine ⟨_, rfl, _, _, _, _, _, rfl, .ty _, hu2.ty A.W, k_list _, _, rfl, iteN (by simp [kitD, tyN]) ?_⟩
        refine ⟨_, rfl, _, _, _, _, _, rfl, .ty _, hu2.ty A.W, k_dict _, _, rfl, iteY (by simp [kitD, tyN]) ?_⟩
        obtain ⟨rfl, b1, rfl, nb1, hb1⟩ := hu1.dicE
        obtain ⟨_, b2, rfl, nb2, hb2⟩ := hu2.dicE
        refine ⟨_, rfl, _, _, _, _, _, rfl, .ty _, hu1.ty A.W, k_dict _, _, rfl, iteN (by simp [kitD, tyN]) ?_⟩
        refine ⟨_, rfl, .inr ⟨b1, [], rfl, hb1, _, rfl, .inr ⟨b2, [], rfl, hb2, rfl, _, rfl, iteN (by simp) ?_⟩⟩⟩
        refine ⟨b2, .dK [], hb2, trivial, fun od => ?_⟩
        refine ⟨_, rfl, b2, od, rfl, .inl ⟨[], upd_same, fun D nD => ?_⟩⟩
        have nDb : b2 ≠ D := fun z => by rw [← z, upd_same] at nD; cases nD
        have nD2 : H2 D = none := by rw [upd_ne nDb.symm] at nD; exact nD
        refine lc_keys0 (d := b2) (o := od) upd_same nD ?_
        refine ⟨by rw [upd_ne nDb]; exact upd_same, ?_⟩
        have a3 : Adv [] H2 (upd (upd (upd H2 b2 (.frz od (.dK []))) D (.lst [])) b2 (.dK [])) := fun b o _ e => by
          by_cases eb : b = b2
          · rw [eb, upd_same, ← hb2, ← eb, e]
          · rw [upd_ne eb, upd_ne (ne_of_none e nD2), upd_ne eb, e]
        have hD3 : (upd (upd (upd H2 b2 (.frz od (.dK []))) D (.lst [])) b2 (.dK [])) D = some (.lst []) := by rw [upd_ne nDb.symm, upd_same]
        refine ⟨D, [], rfl, .inl (SqL.of hD3), _, _, rfl, rfl, _, rfl, iteN (by decide) ?_⟩
        generalize (upd (upd (upd H2 b2 (.frz od (.dK []))) D (.lst [])) b2 (.dK [])) = H3 at *
        have hb3 := a3.same _ _ hb2
        have hL3 := a3.same _ _ hL2
        refine ⟨_, rfl, .inl ⟨rfl, _, SqL.of hL3⟩, b2, .dK [], hb3, trivial, fun od => ?_⟩
        refine ⟨_, rfl, b2, od, rfl, .inl ⟨[], upd_same, fun D nD => ?_⟩⟩
        have nDb : b2 ≠ D := fun z => by rw [← z, upd_same] at nD; cases nD
        have nD3 : H3 D = none := by rw [upd_ne nDb.symm] at nD; exact nD
        refine lc_keys0 (d := b2) (o := od) upd_same nD ?_
        refine ⟨by rw [upd_ne nDb]; exact upd_same, ?_⟩
        have a4 : Adv [] H3 (upd (upd (upd H3 b2 (.frz od (.dK []))) D (.lst [])) b2 (.dK [])) := fun b o _ e => by
          by_cases eb : b = b2
          · rw [eb, upd_same, ← hb3, ← eb, e]
          · rw [upd_ne eb, upd_ne (ne_of_none e nD3), upd_ne eb, e]
        have hD4 : (upd (upd (upd H3 b2 (.frz od (.dK []))) D (.lst [])) b2 (.dK [])) D = some (.lst []) := by rw [upd_ne nDb.symm, upd_same]
        generalize (upd (upd (upd H3 b2 (.frz od (.dK []))) D (.lst [])) b2 (.dK [])) = H4 at *
        have hL4 := a4.same _ _ hL3
        refine ⟨L, D, ws, [], rfl, rfl, hL4, hD4, by rw [sizeLine_eq, List.length_nil]; omega, ?_⟩
        refine ⟨ds', ws, _, _, _, rfl, ((a2.trans a3).trans a4).mut nL0, by rw [upd_same, List.append_nil], ?_, by have := sz_pos (.dict []); omega⟩
        exact ((hws.adv (a3.more (by simp))).adv (a4.more (by simp))).adv (Adv.set (by simp))
      | bool b =>
        refine ⟨_, rfl, _, _, _, _, _, rfl, .ty _, hu2.ty A.W, k_tuple _, _, rfl, iteN (by simp [kitD, tyN]) ?_⟩
        refine ⟨_, rfl, _, _, _, _, _, rfl, .ty _, hu2.ty A.W, k_list _, _, rfl, iteN (by simp [kitD, tyN]) ?_⟩
        refine ⟨_, rfl, _, _, _, _, _, rfl, .ty _, hu2.ty A.W, k_dict _, _, rfl, iteN (by simp [kitD, tyN]) ?_⟩
        refine ⟨_, rfl, _, _, _, _, _, rfl, .ty _, hu2.ty A.W, k_bool _, _, rfl, iteY (by simp [kitD, tyN]) (iteY rfl ?_)⟩
        refine ⟨_, rfl, _, _, _, _, _, rfl, .ty _, hu1.ty A.W, k_bool _, _, rfl, _, _, _, _, _, rfl, .ty _, hu2.ty A.W, k_bool _, rfl, _, rfl, iteN (by simp) ?_⟩
        refine ⟨_, rfl, _, _, _, _, _, rfl, .ty _, hu1.ty A.W, k_str _, _, rfl, _, _, _, _, _, rfl, .ty _, hu2.ty A.W, k_str _, rfl, _, rfl, iteN (by simp) ?_⟩
        cases hu1.blE
        cases hu2.blE
        exact ⟨_, rfl, _, rfl, rfl, _, rfl, iteN (by simp) (fin _ _ _ _ (Adv.refl _ _))⟩
      | str x =>
        refine ⟨_, rfl, _, _, _, _, _, rfl, .ty _, hu2.ty A.W, k_tuple _, _, rfl, iteN (by simp [kitD, tyN]) ?_⟩
        refine ⟨_, rfl, _, _, _, _, _, rfl, .ty _, hu2.ty A.W, k_list _, _, rfl, iteN (by simp [kitD, tyN]) ?_⟩
        refine ⟨_, rfl, _, _, _, _, _, rfl, .ty _, hu2.ty A.W, k_dict _, _, rfl, iteN (by simp [kitD, tyN]) ?_⟩
        refine ⟨_, rfl, _, _, _, _, _, rfl, .ty _, hu2.ty A.W, k_bool _, _, rfl, iteN (by simp [kitD, tyN]) ?_⟩
        refine ⟨_, rfl, _, _, _, _, _, rfl, .ty _, hu2.ty A.W, k_str _, _, rfl, iteY (by simp [kitD, tyN]) ?_⟩
        refine ⟨_, rfl, _, _, _, _, _, rfl, .ty _, hu1.ty A.W, k_bool _, _, rfl, _, _, _, _, _, rfl, .ty _, hu2.ty A.W, k_bool _, rfl, _, rfl, iteN (by simp) ?_⟩
        refine ⟨_, rfl, _, _, _, _, _, rfl, .ty _, hu1.ty A.W, k_str _, _, rfl, _, _, _, _, _, rfl, .ty _, hu2.ty A.W, k_str _, rfl, _, rfl, iteN (by simp) ?_⟩
        cases hu1.strE
        cases hu2.strE
        exact ⟨_, rfl, _, rfl, rfl, _, rfl, iteN (by simp) (fin _ _ _ _ (Adv.refl _ _))⟩
      | int n =>
        refine ⟨_, rfl, _, _, _, _, _, rfl, .ty _, hu2.ty A.W, k_tuple _, _, rfl, iteN (by simp [kitD, tyN]) ?_⟩
        refine ⟨_, rfl, _, _, _, _, _, rfl, .ty _, hu2.ty A.W, k_list _, _, rfl, iteN (by simp [kitD, tyN]) ?_⟩
        refine ⟨_, rfl, _, _, _, _, _, rfl, .ty _, hu2.ty A.W, k_dict _, _, rfl, iteN (by simp [kitD, tyN]) ?_⟩
        refine ⟨_, rfl, _, _, _, _, _, rfl, .ty _, hu2.ty A.W, k_bool _, _, rfl, iteN (by simp [kitD, tyN]) ?_⟩
        refine ⟨_, rfl, _, _, _, _, _, rfl, .ty _, hu2.ty A.W, k_str _, _, rfl, iteN (by simp [kitD, tyN]) ?_⟩
        refine ⟨_, rfl, _, _, _, _, _, rfl, .ty _, hu2.ty A.W, k_int _, _, rfl, iteY (by simp [kitD, tyN]) ?_⟩
        refine ⟨_, rfl, _, _, _, _, _, rfl, .ty _, hu1.ty A.W, k_int _, _, rfl, iteN (by simp [kitD, tyN]) ?_⟩
        refine ⟨_, rfl, _, _, _, _, _, rfl, .ty _, hu1.ty A.W, k_bool _, _, rfl, iteN (by simp [kitD, tyN]) ?_⟩
        cases hu1.intE
        cases hu2.intE
        exact ⟨_, rfl, _, rfl, rfl, _, rfl, iteN (by simp) (fin _ _ _ _ (Adv.refl _ _))⟩
      | none =>
        refine ⟨_, rfl, _, _, _, _, _, rfl, .ty _, hu2.ty A.W, k_tuple _, _, rfl, iteN (by simp [kitD, tyN]) ?_⟩
        refine ⟨_, rfl, _, _, _, _, _, rfl, .ty _, hu2.ty A.W, k_list _, _, rfl, iteN (by simp [kitD, tyN]) ?_⟩
        refine ⟨_, rfl, _, _, _, _, _, rfl, .ty _, hu2.ty A.W, k_dict _, _, rfl, iteN (by simp [kitD, tyN]) ?_⟩
        refine ⟨_, rfl, _, _, _, _, _, rfl, .ty _, hu2.ty A.W, k_bool _, _, rfl, iteN (by simp [kitD, tyN]) ?_⟩
        refine ⟨_, rfl, _, _, _, _, _, rfl, .ty _, hu2.ty A.W, k_str _, _, rfl, iteN (by simp [kitD, tyN]) ?_⟩
        refine ⟨_, rfl, _, _, _, _, _, rfl, .ty _, hu2.ty A.W, k_int _, _, rfl, iteN (by simp [kitD, tyN]) ?_⟩
        cases hu1.nonE
        cases hu2.nonE
        exact ⟨_, rfl, rfl, _, rfl, iteN (by simp) (fin _ _ _ _ (Adv.refl _ _))⟩
    · rintro σ' H' ⟨ds, vs, x3, x4, x5, rfl, a', hL, hds, hsz⟩
      have : (2000000 : Int).toNat = 2000000 := rfl
      omega
end

set_option Elab.async false
set_option linter.all false
set_option maxRecDepth 100000
set_option maxHeartbeats 4000000
open PySem PySem.Spec PyProof.Rows L2 LL
open C8 (pss_cut)
section
variable [KW]
variable {P : Program} {w : World} {K : PySem.W.Frag} {mg : Str → Option Value} {base : Heap}
def spCopy (n : Nat) : Sp := fun vs H Q _ => ∃ (v : V) (d : PyData) (M : List Addr), vs = [v] ∧ (∀ b ∈ M, H b ≠ none) ∧ Is M H d v ∧ dep d ≤ n ∧ sz d ≤ 1000000 ∧ ∀ v' H', Is M H' d v' → Adv [] H H' → Q v' H'
theorem szL_len : ∀ l : List PyData, l.length ≤ szL l
  | [] => Nat.zero_le _
  | c :: r => by
    rw [szL_cons, List.length_cons]
    have := sz_pos c
    have := szL_len r
    omega
theorem sz_mem : ∀ {ds : List PyData} {d : PyData}, d ∈ ds → sz d ≤ szL ds
  | c :: ds, d, h => by
    rw [szL_cons]
    rcases List.mem_cons.mp h with e | h
    · rw [e]; omega
    · have := sz_mem h
      omega
theorem copy_0 (A : All K mg w) : FnOk P w K mg base CX0 1 A.law_copy.f A.law_copy.fd ["value"] (spCopy 0) := by
  refine A.law_copy.F.ok sc_law_copy (fun vs H Q E h => ?_) (fun cdv Ar outer s H vs Q E hr h => ?_)
  · obtain ⟨v, d, M, rfl, _⟩ := h
    rfl
  · obtain ⟨v, d, M, rfl, hM, hv, hn, hz, q⟩ := h
    refine ⟨_, (pss_cons (ps_if (pt_val (pe_callB call_isi (by rfl) A.T.isinstance (by decide +kernel) (pa_cons (pv 0) (pa_cons (pe_bltn (v := .ty "dict") (by rfl) A.T.dict (by decide +kernel) rfl) pa_nil))))
    (pss_cons (ps_set (i := 1) sc_law_copy.nd rfl (Or.inl rfl) pe_dnewK)
  (pss_cons (ps_lock (ps_for PassesOwn.never rfl (pi_keys (pv 0)) (pg_name (i := 2) sc_law_copy.nd rfl (Or.inl rfl)) pss_never))
  (pss_one (ps_ret (pv 1)))))
    pss_nil)
  (pss_cons (ps_if (pt_val (pe_callB call_isi (by rfl) A.T.isinstance (by decide +kernel) (pa_cons (pv 0) (pa_cons (pe_bltn (v := .ty "list") (by rfl) A.T.list (by decide +kernel) rfl) pa_nil))))
    (pss_one (ps_ret (pe_lc (own := [("item", 3)]) (g := gName 3) rfl sc_law_copy.nd (pi_list (pv 0)) (blkOk_by (own := [("item", 3)]) (N := ["value", "found", "key", "item"]) (sc := defScope s_law_copy) (by decide +kernel)) (fun _ _ _ _ _ => pg_name (i := 3) sc_law_copy.nd rfl (Or.inl rfl)) (fun _ _ _ _ _ => pts_nil) (fun _ _ _ _ _ => pe_never))))
    pss_nil)
  (pss_cons (ps_if (pt_val (pe_callB call_isi (by rfl) A.T.isinstance (by decide +kernel) (pa_cons (pv 0) (pa_cons (pe_bltn (v := .ty "tuple") (by rfl) A.T.tuple (by decide +kernel) rfl) pa_nil))))
    (pss_one (ps_ret (pe_callTy call_tuple_of (by rfl) A.T.tuple (by decide +kernel) (pa_cons (pe_lc (own := [("item", 3)]) (g := gName 3) rfl sc_law_copy.nd (pi_tup (pv 0)) (blkOk_by (own := [("item", 3)]) (N := ["value", "found", "key", "item"]) (sc := defScope s_law_copy) (by decide +kernel)) (fun _ _ _ _ _ => pg_name (i := 3) sc_law_copy.nd rfl (Or.inl rfl)) (fun _ _ _ _ _ => pts_nil) (fun _ _ _ _ _ => pe_never)) pa_nil))))
    pss_nil)
  (pss_one (ps_ret (pv 0)))))), ?_⟩
    refine ⟨_, rfl, _, _, _, _, _, rfl, .ty _, hv.ty A.W, k_dict _, _, rfl, ?_⟩
    cases d with
    | dict kvs =>
      refine iteY (by simp [kitD, tyN]) ?_
      obtain ⟨rfl, b, rfl, nb, hb⟩ := hv.dicE
      intro f nf
      have nbf : b ≠ f := ne_of_none hb nf
      refine ⟨b, .dK [], by rw [upd_ne nbf]; exact hb, trivial, fun od => ?_⟩
      refine ⟨_, rfl, b, od, rfl, .inl ⟨[], upd_same, ?_⟩⟩
      refine for_keys0 (d := b) (o := od) upd_same ?_
      refine ⟨upd_same, ?_⟩
      have hf : (upd (upd (upd H f (.dK [])) b (.frz od (.dK []))) b (.dK [])) f = some (.dK []) := by rw [upd_ne nbf.symm, upd_ne nbf.symm, upd_same]
      refine ⟨_, rfl, q _ _ (Is.dic hf (not_mem_new hM nf)) fun c o _ e => ?_⟩
      by_cases ec : c = b
      · rw [ec, upd_same, ← hb, ← ec, e]
      · rw [upd_ne ec, upd_ne ec, upd_ne (ne_of_none e nf), e]
    | list ds =>
      refine iteN (by simp [kitD, tyN]) ?_
      refine ⟨_, rfl, _, _, _, _, _, rfl, .ty _, hv.ty A.W, k_list _, _, rfl, iteY (by simp [kitD, tyN]) ?_⟩
      obtain ⟨b, r, rfl, nb, hb, hr1⟩ := hv.lstE
      have hl := hr1.len
      have hdd : dep (.list ds) = 1 + depL ds := by rw [dep]
      have hss : sz (.list ds) = 1 + szL ds := by rw [sz]
      have hlen := szL_len ds
      omega
    | tuple ds =>
      refine iteN (by simp [kitD, tyN]) ?_
      refine ⟨_, rfl, _, _, _, _, _, rfl, .ty _, hv.ty A.W, k_list _, _, rfl, iteN (by simp [kitD, tyN]) ?_⟩
      refine ⟨_, rfl, _, _, _, _, _, rfl, .ty _, hv.ty A.W, k_tuple _, _, rfl, iteY (by simp [kitD, tyN]) ?_⟩
      obtain ⟨b, r, rfl, hb, hr1⟩ := hv.tupE
      have hl := hr1.len
      have hdd : dep (.tuple ds) = 1 + depL ds := by rw [dep]
      have hss : sz (.tuple ds) = 1 + szL ds := by rw [sz]
      have hlen := szL_len ds
      omega
    | none =>
      refine iteN (by simp [kitD, tyN]) ?_
      refine ⟨_, rfl, _, _, _, _, _, rfl, .ty _, hv.ty A.W, k_list _, _, rfl, iteN (by simp [kitD, tyN]) ?_⟩
      refine ⟨_, rfl, _, _, _, _, _, rfl, .ty _, hv.ty A.W, k_tuple _, _, rfl, iteN (by simp [kitD, tyN]) ?_⟩
      exact ⟨_, rfl, q _ _ hv (Adv.refl _ _)⟩
    | bool _ =>
      refine iteN (by simp [kitD, tyN]) ?_
      refine ⟨_, rfl, _, _, _, _, _, rfl, .ty _, hv.ty A.W, k_list _, _, rfl, iteN (by simp [kitD, tyN]) ?_⟩
      refine ⟨_, rfl, _, _, _, _, _, rfl, .ty _, hv.ty A.W, k_tuple _, _, rfl, iteN (by simp [kitD, tyN]) ?_⟩
      exact ⟨_, rfl, q _ _ hv (Adv.refl _ _)⟩
    | int _ =>
      refine iteN (by simp [kitD, tyN]) ?_
      refine ⟨_, rfl, _, _, _, _, _, rfl, .ty _, hv.ty A.W, k_list _, _, rfl, iteN (by simp [kitD, tyN]) ?_⟩
      refine ⟨_, rfl, _, _, _, _, _, rfl, .ty _, hv.ty A.W, k_tuple _, _, rfl, iteN (by simp [kitD, tyN]) ?_⟩
      exact ⟨_, rfl, q _ _ hv (Adv.refl _ _)⟩
    | str _ =>
      refine iteN (by simp [kitD, tyN]) ?_
      refine ⟨_, rfl, _, _, _, _, _, rfl, .ty _, hv.ty A.W, k_list _, _, rfl, iteN (by simp [kitD, tyN]) ?_⟩
      refine ⟨_, rfl, _, _, _, _, _, rfl, .ty _, hv.ty A.W, k_tuple _, _, rfl, iteN (by simp [kitD, tyN]) ?_⟩
      exact ⟨_, rfl, q _ _ hv (Adv.refl _ _)⟩
theorem copy_s (A : All K mg w) {n : Nat} (G : FnOk P w K mg base CX0 (n + 1) A.law_copy.f A.law_copy.fd ["value"] (spCopy n)) : FnOk P w K mg base CX0 (n + 2) A.law_copy.f A.law_copy.fd ["value"] (spCopy (n + 1)) := by
  refine A.law_copy.F.ok sc_law_copy (fun vs H Q E h => ?_) (fun cdv Ar outer s H vs Q E hr h => ?_)
  · obtain ⟨v, d, M, rfl, _⟩ := h
    rfl
  · obtain ⟨v, d, M, rfl, hM, hv, hn, hz, q⟩ := h
    refine ⟨_, (pss_cons (ps_if (pt_val (pe_callB call_isi (by rfl) A.T.isinstance (by decide +kernel) (pa_cons (pv 0) (pa_cons (pe_bltn (v := .ty "dict") (by rfl) A.T.dict (by decide +kernel) rfl) pa_nil))))
    (pss_cons (ps_set (i := 1) sc_law_copy.nd rfl (Or.inl rfl) pe_dnewK)
  (pss_cons (ps_lock (ps_for PassesOwn.never rfl (pi_keys (pv 0)) (pg_name (i := 2) sc_law_copy.nd rfl (Or.inl rfl)) pss_never))
  (pss_one (ps_ret (pv 1)))))
    pss_nil)
  (pss_cons (ps_if (pt_val (pe_callB call_isi (by rfl) A.T.isinstance (by decide +kernel) (pa_cons (pv 0) (pa_cons (pe_bltn (v := .ty "list") (by rfl) A.T.list (by decide +kernel) rfl) pa_nil))))
    (pss_one (ps_ret (pe_lc (own := [("item", 3)]) (g := gName 3) rfl sc_law_copy.nd (pi_list (pv 0)) (blkOk_by (own := [("item", 3)]) (N := ["value", "found", "key", "item"]) (sc := defScope s_law_copy) (by decide +kernel)) (fun _ _ _ _ _ => pg_name (i := 3) sc_law_copy.nd rfl (Or.inl rfl)) (fun _ _ _ _ _ => pts_nil) (fun _ _ _ _ _ => (pe_call G hr rfl A.law_copy.m A.law_copy.F.kp A.law_copy.b .nil pass0 (pa_cons (pv 3) pa_nil))))))
    pss_nil)
  (pss_cons (ps_if (pt_val (pe_callB call_isi (by rfl) A.T.isinstance (by decide +kernel) (pa_cons (pv 0) (pa_cons (pe_bltn (v := .ty "tuple") (by rfl) A.T.tuple (by decide +kernel) rfl) pa_nil))))
    (pss_one (ps_ret (pe_callTy call_tuple_of (by rfl) A.T.tuple (by decide +kernel) (pa_cons (pe_lc (own := [("item", 3)]) (g := gName 3) rfl sc_law_copy.nd (pi_tup (pv 0)) (blkOk_by (own := [("item", 3)]) (N := ["value", "found", "key", "item"]) (sc := defScope s_law_copy) (by decide +kernel)) (fun _ _ _ _ _ => pg_name (i := 3) sc_law_copy.nd rfl (Or.inl rfl)) (fun _ _ _ _ _ => pts_nil) (fun _ _ _ _ _ => (pe_call G hr rfl A.law_copy.m A.law_copy.F.kp A.law_copy.b .nil pass0 (pa_cons (pv 3) pa_nil)))) pa_nil))))
    pss_nil)
  (pss_one (ps_ret (pv 0)))))), ?_⟩
    refine ⟨_, rfl, _, _, _, _, _, rfl, .ty _, hv.ty A.W, k_dict _, _, rfl, ?_⟩
    cases d with
    | dict kvs =>
      refine iteY (by simp [kitD, tyN]) ?_
      obtain ⟨rfl, b, rfl, nb, hb⟩ := hv.dicE
      intro f nf
      have nbf : b ≠ f := ne_of_none hb nf
      refine ⟨b, .dK [], by rw [upd_ne nbf]; exact hb, trivial, fun od => ?_⟩
      refine ⟨_, rfl, b, od, rfl, .inl ⟨[], upd_same, ?_⟩⟩
      refine for_keys0 (d := b) (o := od) upd_same ?_
      refine ⟨upd_same, ?_⟩
      have hf : (upd (upd (upd H f (.dK [])) b (.frz od (.dK []))) b (.dK [])) f = some (.dK []) := by rw [upd_ne nbf.symm, upd_ne nbf.symm, upd_same]
      refine ⟨_, rfl, q _ _ (Is.dic hf (not_mem_new hM nf)) fun c o _ e => ?_⟩
      by_cases ec : c = b
      · rw [ec, upd_same, ← hb, ← ec, e]
      · rw [upd_ne ec, upd_ne ec, upd_ne (ne_of_none e nf), e]
    | list ds =>
      refine iteN (by simp [kitD, tyN]) ?_
      refine ⟨_, rfl, _, _, _, _, _, rfl, .ty _, hv.ty A.W, k_list _, _, rfl, iteY (by simp [kitD, tyN]) ?_⟩
      obtain ⟨b, r, rfl, nb, hb, hr1⟩ := hv.lstE
      have hl := hr1.len
      have hdd : dep (.list ds) = 1 + depL ds := by rw [dep]
      have hss : sz (.list ds) = 1 + szL ds := by rw [sz]
      have hlen := szL_len ds
      refine ⟨_, rfl, b, rfl, ⟨_, SqL.of hb⟩, fun D nD => ?_⟩
      refine lc_dataL (M := M) (K := K) (a := b) (xs := r) ds hl nD (SqL.of hb) (by omega) ?_ ?_
      · intro i x dx H3 acc R hx hdx a3 hD k
        have hdl : dx ∈ ds := List.mem_of_getElem? hdx
        obtain ⟨x', hx', isx⟩ := hr1.get hdx
        rw [hx] at hx'
        cases hx'
        have d1 := dep_mem hdl
        have d2 := sz_mem hdl
        refine ⟨rfl, x, rfl, x, dx, D :: M, rfl, ?_, (isx.fresh nD).adv (a3.more (by simp)), by omega, by omega, fun v' H4 h4 a4 => ?_⟩
        · intro c hc
          rcases List.mem_cons.mp hc with e | hc
          · rw [e, hD]; simp
          · cases e : H c with
            | none => exact absurd e (hM c hc)
            | some o => rw [a3.same _ _ e]; simp
        · exact k v' H4 (a4.same _ _ hD) (a4.more (by simp)) h4
      · intro H3 acc a3 hD hacc
        exact q _ _ (Is.lst hD (not_mem_new hM nD) (hacc.less (by simp +contextual))) a3
    | tuple ds =>
      refine iteN (by simp [kitD, tyN]) ?_
      refine ⟨_, rfl, _, _, _, _, _, rfl, .ty _, hv.ty A.W, k_list _, _, rfl, iteN (by simp [kitD, tyN]) ?_⟩
      refine ⟨_, rfl, _, _, _, _, _, rfl, .ty _, hv.ty A.W, k_tuple _, _, rfl, iteY (by simp [kitD, tyN]) ?_⟩
      obtain ⟨b, r, rfl, hb, hr1⟩ := hv.tupE
      have hl := hr1.len
      have hdd : dep (.tuple ds) = 1 + depL ds := by rw [dep]
      have hss : sz (.tuple ds) = 1 + szL ds := by rw [sz]
      have hlen := szL_len ds
      refine ⟨_, rfl, b, rfl, ⟨_, hb.sq A.W⟩, fun D nD => ?_⟩
      refine lc_dataT (M := M) (K := K) (a := b) (xs := r) ds hl nD (hb.sq A.W) (by omega) ?_ ?_
      · intro i x dx H3 acc R hx hdx a3 hD k
        have hdl : dx ∈ ds := List.mem_of_getElem? hdx
        obtain ⟨x', hx', isx⟩ := hr1.get hdx
        rw [hx] at hx'
        cases hx'
        have d1 := dep_mem hdl
        have d2 := sz_mem hdl
        refine ⟨rfl, x, rfl, x, dx, D :: M, rfl, ?_, (isx.fresh nD).adv (a3.more (by simp)), by omega, by omega, fun v' H4 h4 a4 => ?_⟩
        · intro c hc
          rcases List.mem_cons.mp hc with e | hc
          · rw [e, hD]; simp
          · cases e : H c with
            | none => exact absurd e (hM c hc)
            | some o => rw [a3.same _ _ e]; simp
        · exact k v' H4 (a4.same _ _ hD) (a4.more (by simp)) h4
      · intro H3 acc a3 hD hacc
        refine ⟨D, acc, rfl, .inl ⟨SqL.of hD, fun l nl => ?_⟩⟩
        have aN : Adv [] H3 (upd H3 l (.tup acc)) := Adv.new nl
        exact q _ _ (Is.tup upd_same (not_mem_new hM (a3.free (by simp) nl)) ((hacc.less (by simp +contextual)).adv (aN.more (by simp)))) (a3.trans aN)
    | none =>
      refine iteN (by simp [kitD, tyN]) ?_
      refine ⟨_, rfl, _, _, _, _, _, rfl, .ty _, hv.ty A.W, k_list _, _, rfl, iteN (by simp [kitD, tyN]) ?_⟩
      refine ⟨_, rfl, _, _, _, _, _, rfl, .ty _, hv.ty A.W, k_tuple _, _, rfl, iteN (by simp [kitD, tyN]) ?_⟩
      exact ⟨_, rfl, q _ _ hv (Adv.refl _ _)⟩
    | bool _ =>
      refine iteN (by simp [kitD, tyN]) ?_
      refine ⟨_, rfl, _, _, _, _, _, rfl, .ty _, hv.ty A.W, k_list _, _, rfl, iteN (by simp [kitD, tyN]) ?_⟩
      refine ⟨_, rfl, _, _, _, _, _, rfl, .ty _, hv.ty A.W, k_tuple _, _, rfl, iteN (by simp [kitD, tyN]) ?_⟩
      exact ⟨_, rfl, q _ _ hv (Adv.refl _ _)⟩
    | int _ =>
      refine iteN (by simp [kitD, tyN]) ?_
      refine ⟨_, rfl, _, _, _, _, _, rfl, .ty _, hv.ty A.W, k_list _, _, rfl, iteN (by simp [kitD, tyN]) ?_⟩
      refine ⟨_, rfl, _, _, _, _, _, rfl, .ty _, hv.ty A.W, k_tuple _, _, rfl, iteN (by simp [kitD, tyN]) ?_⟩
      exact ⟨_, rfl, q _ _ hv (Adv.refl _ _)⟩
    | str _ =>
      refine iteN (by simp [kitD, tyN]) ?_
      refine ⟨_, rfl, _, _, _, _, _, rfl, .ty _, hv.ty A.W, k_list _, _, rfl, iteN (by simp [kitD, tyN]) ?_⟩
      refine ⟨_, rfl, _, _, _, _, _, rfl, .ty _, hv.ty A.W, k_tuple _, _, rfl, iteN (by simp [kitD, tyN]) ?_⟩
      exact ⟨_, rfl, q _ _ hv (Adv.refl _ _)⟩

theorem ok_law_copy (A : All K mg w) : ∀ n : Nat, FnOk P w K mg base CX0 (n + 1) A.law_copy.f A.law_copy.fd ["value"] (spCopy n)
  | 0 => copy_0 A
  | n + 1 => copy_s A (ok_law_copy A n)
end

set_option Elab.async false
set_option linter.all false
set_option maxRecDepth 100000
set_option maxHeartbeats 400000
open PySem PySem.Spec PyProof.Rows L2 LL
section
variable [KW]
variable {P : Program} {w : World} {K : PySem.W.Frag} {mg : Str → Option Value} {base : Heap}
/-! ### _law_row, by the book's content -/
structure RowP (vs : List V) (H : Hp) (Q : VK) : Prop where
  ex : ∃ (M : List Addr) (bk b0 b1 nd : Addr) (ns : List Nd) (n : Nd), vs = [.ref bk, .ref nd] ∧ H bk = some (.lst [.ref b0, .ref b1]) ∧ bk ∉ M ∧ BkN M H b0 b1 ns ∧ Tp M H nd (n.keys.map kV) ∧ ns.length ≤ 1000000 ∧
  ∀ H', BkN M H' b0 b1 (rowF ns n).2 → Adv [b0, b1] H H' → Q (.int ((rowF ns n).1 : Nat)) H'
def spRowN : Sp := fun vs H Q _ => RowP vs H Q
theorem ok_law_row (A : All K mg w) : FnOk P w K mg base CX0 1 A.law_row.f A.law_row.fd ["book", "node"] spRowN := by
  refine A.law_row.F.ok sc_law_row (fun vs H Q E h => ?_) (fun cdv Ar outer s H vs Q E hr h => ?_)
  · obtain ⟨M, bk, b0, b1, nd, ns, n, rfl, _⟩ := h.ex
    rfl
  · obtain ⟨M, bk, b0, b1, nd, ns, n, rfl, hbk, kM, B, hnd, hl, q⟩ := h.ex
    refine ⟨_, (pss_cons (ps_if (pt_cmp (pc_dnotinX A.W (hu_of hr) (pv 1) (pe_ix ix_list (pv 0) pe_int (fun _ _ => rfl))))
    (pss_cons (ps_dputX A.W (hu_of hr) (pe_ix ix_list (pv 0) pe_int (fun _ _ => rfl)) (pv 1) (pe_callB call_len_seq (by rfl) A.T.len PySem.boot_len (pa_cons (pe_ix ix_list (pv 0) pe_int (fun _ _ => rfl)) pa_nil)) rfl)
  (pss_one (ps_expr (pe_bm PySem.F.plainAttrs_list PySem.F.slot_list_append PySem.F.type_list_append mt_append (pe_ix ix_list (pv 0) pe_int (fun _ _ => rfl)) (pa_cons (pv 1) pa_nil)))))
    pss_nil)
  (pss_one (ps_ret (pe_dgetX A.W (hu_of hr) (pe_ix ix_list (pv 0) pe_int (fun _ _ => rfl)) (pv 1) (fun _ _ => rfl))))), ?_⟩
    obtain ⟨⟨rs, r0, rd⟩, r1, m0, m1, n01, al⟩ := id B
    have hrl : rs.length = ns.length := by have := rd.len; rw [List.length_map] at this; exact this
    have i0 : atI [V.ref b0, .ref b1] 0 = some (.ref b0) := atI_nat (j := 0) rfl
    have i1 : atI [V.ref b0, .ref b1] 1 = some (.ref b1) := atI_nat (j := 1) rfl
    have hv := tab_val 0 ns n
    refine ⟨_, rfl, _, rfl, bk, _, 1, _, rfl, rfl, SqL.of hbk, i1, b1, _, rfl, r1.get A.W hnd, _, rfl, ?_⟩
    by_cases hm : n ∈ ns
    · rw [if_pos hm, Nat.zero_add] at hv
      rw [hv]
      refine iteN rfl ?_
      refine ⟨_, rfl, bk, _, 1, _, rfl, rfl, SqL.of hbk, i1, _, rfl, b1, .int (ns.idxOf n : Nat), rfl, by have := r1.get A.W hnd; rw [hv] at this; exact this, ?_⟩
      unfold rowF at q
      rw [if_pos hm] at q
      exact q H B (Adv.refl _ _)
    · rw [if_neg hm] at hv
      rw [hv]
      refine iteY rfl ?_
      obtain ⟨o, hg, B2⟩ := B.push A.W r0 hnd hm (by rw [sizeLine_eq]; omega)
      refine ⟨_, rfl, bk, _, 0, _, rfl, rfl, SqL.of hbk, i0, b0, rs, rfl, .inl (SqL.of r0), ?_⟩
      refine ⟨_, rfl, bk, _, 1, _, rfl, rfl, SqL.of hbk, i1, _, rfl, b1, _, rfl, hg, ?_⟩
      have kb1 : bk ≠ b1 := fun z => kM (by rw [z]; exact m1)
      have kb0 : bk ≠ b0 := fun z => kM (by rw [z]; exact m0)
      have hbk1 : (upd H b1 o) bk = some (.lst [.ref b0, .ref b1]) := by rw [upd_ne kb1]; exact hbk
      have r01 : (upd H b1 o) b0 = some (.lst rs) := by rw [upd_ne n01]; exact r0
      refine ⟨_, rfl, bk, _, 0, _, rfl, rfl, SqL.of hbk1, i0, .inl ⟨rfl, _, SqL.of r01⟩, _, rfl, b0, rs, _, rfl, rfl, r01, by rw [sizeLine_eq]; omega, ?_⟩
      have aa : Adv [b0, b1] H (upd (upd H b1 o) b0 (.lst (rs ++ [.ref nd]))) := (Adv.set (by simp)).trans (Adv.set (by simp))
      have hbk2 : (upd (upd H b1 o) b0 (.lst (rs ++ [.ref nd]))) bk = some (.lst [.ref b0, .ref b1]) := by rw [upd_ne kb0]; exact hbk1
      have hnd2 := hnd.adv (aa.more (by simp [m0, m1]))
      have hval : valV (tabG 0 (ns ++ [n])) n.keys = some (.int (ns.length : Nat)) := by
        rw [tab_val, if_pos (by simp), Nat.zero_add, List.idxOf_append, if_neg hm]
        simp [List.idxOf_cons]
      refine ⟨_, rfl, bk, _, 1, _, rfl, rfl, SqL.of hbk2, i1, _, rfl, b1, _, rfl, by have := B2.tab.get A.W hnd2; rw [hval] at this; exact this, ?_⟩
      unfold rowF at q
      rw [if_neg hm] at q
      exact q _ B2 aa
end

set_option Elab.async false
set_option linter.all false
set_option maxRecDepth 100000
set_option maxHeartbeats 400000
open PySem PySem.Spec PyProof.Rows L2 LL
section
variable [KW]
variable {P : Program} {w : World} {K : PySem.W.Frag} {mg : Str → Option Value} {base : Heap}
theorem atI_nat0 {xs : List V} {j : Nat} {v : V} (h : xs[j]? = some v) : atI xs (0 + (j : Nat)) = some v := by
  rw [Int.zero_add]
  exact atI_nat h
theorem ixN_of {n j : Nat} (h : j < n) : ixN n (j : Int) = some j := by
  unfold ixN
  rw [if_pos (Int.natCast_nonneg j), if_pos (by omega), Int.toNat_natCast]
def nV (l : List Nat) : List V := l.map fun i => V.int (i : Nat)
structure PartsP (tup : Bool) (vs : List V) (H : Hp) (Q : VK) : Prop where
  ex : ∃ (M : List Addr) (a : Addr) (n : Nd), vs = [.ref a] ∧ Tp M H a (n.keys.map kV) ∧ ∀ l H', H l = none → H' l = some (if tup = true then .tup (nV n.parts) else .lst (nV n.parts)) → Adv [] H H' → Q (.ref l) H'
def spParts (tup : Bool) : Sp := fun vs H Q _ => PartsP tup vs H Q
theorem ok_law_parts (A : All K mg w) : FnOk P w K mg base CX0 1 A.law_parts.f A.law_parts.fd ["node"] (spParts false) := by
  refine A.law_parts.F.ok sc_law_parts (fun vs H Q E h => ?_) (fun cdv Ar outer s H vs Q E hr h => ?_)
  · obtain ⟨M, a, n, rfl, _⟩ := h.ex
    rfl
  · obtain ⟨M, a, n, rfl, ha, q⟩ := h.ex
    refine ⟨_, (pss_one (ps_ret (pe_ifExp (pt_cmpR op_eq (pe_ix ix_tup (pv 0) pe_int (fun _ _ => rfl)) pe_str (nomark _)) (pe_lst pa_nil) (pe_callTy call_list_of (by rfl) A.T.list (by decide +kernel) (pa_cons (pe_slice sl_tup (pv 0) (po_some pe_int) po_none) pa_nil))))), ?_⟩
    have ha0 : SqT K H a (n.keys.map kV) := ha.sq A.W
    cases n with
    | letter i =>
      refine ⟨_, rfl, a, _, 0, _, rfl, rfl, ha0, atI_nat (j := 0) rfl, rfl, _, rfl, iteY (by decide) ⟨by show 0 ≤ sizeLine; exact Nat.zero_le _, fun p np => ?_⟩⟩
      exact q p _ np upd_same (Adv.new np)
    | no =>
      refine ⟨_, rfl, a, _, 0, _, rfl, rfl, ha0, atI_nat (j := 0) rfl, rfl, _, rfl, iteN (by decide) ?_⟩
      refine ⟨_, rfl, 1, rfl, a, _, rfl, ha0, by decide, fun p np => ?_⟩
      refine ⟨p, _, rfl, .inr (SqT.of upd_same), fun l nl => ?_⟩
      exact q l _ ((Adv.new (M := []) np).free (by simp) nl) upd_same ((Adv.new np).trans (Adv.new nl))
    | bin o j k =>
      refine ⟨_, rfl, a, _, 0, _, rfl, rfl, ha0, atI_nat (j := 0) rfl, rfl, _, rfl, iteN (by cases o <;> decide) ?_⟩
      refine ⟨_, rfl, 1, rfl, a, _, rfl, ha0, by simp [Nd.keys, HT.sIx], fun p np => ?_⟩
      refine ⟨p, _, rfl, .inr (SqT.of upd_same), fun l nl => ?_⟩
      refine q l _ ((Adv.new (M := []) np).free (by simp) nl) ?_ ((Adv.new np).trans (Adv.new nl))
      rw [upd_same, cut_from1]
      rfl
    | box j =>
      refine ⟨_, rfl, a, _, 0, _, rfl, rfl, ha0, atI_nat (j := 0) rfl, rfl, _, rfl, iteN (by decide) ?_⟩
      refine ⟨_, rfl, 1, rfl, a, _, rfl, ha0, by simp [Nd.keys, HT.sIx], fun p np => ?_⟩
      refine ⟨p, _, rfl, .inr (SqT.of upd_same), fun l nl => ?_⟩
      refine q l _ ((Adv.new (M := []) np).free (by simp) nl) ?_ ((Adv.new np).trans (Adv.new nl))
      rw [upd_same, cut_from1]
      rfl
theorem ok_parts (A : All K mg w) : FnOk P w K mg base CX0 1 A.parts.f A.parts.fd ["node"] (spParts true) := by
  refine A.parts.F.ok sc_parts (fun vs H Q E h => ?_) (fun cdv Ar outer s H vs Q E hr h => ?_)
  · obtain ⟨M, a, n, rfl, _⟩ := h.ex
    rfl
  · obtain ⟨M, a, n, rfl, ha, q⟩ := h.ex
    refine ⟨_, (pss_cons (ps_if (pt_cmpR op_eq (pe_ix ix_tup (pv 0) pe_int (fun _ _ => rfl)) pe_str (nomark _))
    (pss_one (ps_ret (pe_tup pa_nil)))
    pss_nil)
  (pss_one (ps_ret (pe_slice sl_tup (pv 0) (po_some pe_int) po_none)))), ?_⟩
    have ha0 : SqT K H a (n.keys.map kV) := ha.sq A.W
    cases n with
    | letter i =>
      refine ⟨_, rfl, a, _, 0, _, rfl, rfl, ha0, atI_nat (j := 0) rfl, rfl, _, rfl, iteY (by decide) ⟨by show 0 ≤ sizeLine; exact Nat.zero_le _, fun p np => ?_⟩⟩
      exact q p _ np upd_same (Adv.new np)
    | no =>
      refine ⟨_, rfl, a, _, 0, _, rfl, rfl, ha0, atI_nat (j := 0) rfl, rfl, _, rfl, iteN (by decide) ?_⟩
      exact ⟨_, rfl, 1, rfl, a, _, rfl, ha0, by decide, fun p np => q p _ np upd_same (Adv.new np)⟩
    | bin o j k =>
      refine ⟨_, rfl, a, _, 0, _, rfl, rfl, ha0, atI_nat (j := 0) rfl, rfl, _, rfl, iteN (by cases o <;> decide) ?_⟩
      refine ⟨_, rfl, 1, rfl, a, _, rfl, ha0, by simp [Nd.keys, HT.sIx], fun p np => q p _ np ?_ (Adv.new np)⟩
      rw [upd_same, cut_from1]
      rfl
    | box j =>
      refine ⟨_, rfl, a, _, 0, _, rfl, rfl, ha0, atI_nat (j := 0) rfl, rfl, _, rfl, iteN (by decide) ?_⟩
      refine ⟨_, rfl, 1, rfl, a, _, rfl, ha0, by simp [Nd.keys, HT.sIx], fun p np => q p _ np ?_ (Adv.new np)⟩
      rw [upd_same, cut_from1]
      rfl
/-! ### _law_below -/
structure BelP (vs : List V) (H : Hp) (Q : VK) : Prop where
  ex : ∃ (sh rw_ : Addr) (ns : List Nd) (rs : List V) (rows : List Nat) (boxed : Bool), vs = [.ref sh, .ref rw_] ∧ H sh = some (.lst rs) ∧ IsDs [] H (ns.map Nd.data) rs ∧ (H rw_ = some (.lst (nV rows)) ∨ Tp [] H rw_ (nV rows)) ∧ (∀ r ∈ rows, r < ns.length) ∧ okSheet boxed ns ∧ ns.length ≤ 200000 ∧ rows.length ≤ 200000 ∧
    ∀ l H', H l = none → H' l = some (.lst (nV (belowF ns rows))) → Adv [] H H' → Q (.ref l) H'
def spBelow : Sp := fun vs H Q _ => BelP vs H Q
theorem ok_law_below (A : All K mg w) : FnOk P w K mg base CX0 2 A.law_below.f A.law_below.fd ["sheet", "rows"] spBelow := by
  refine A.law_below.F.ok sc_law_below (fun vs H Q E h => ?_) (fun cdv Ar outer s H vs Q E hr h => ?_)
  · obtain ⟨sh, rw_, ns, rs, rows, boxed, rfl, _⟩ := h.ex
    rfl
  · obtain ⟨sh, rw_, ns, rs, rows, boxed, rfl, hsh, hds, hrw, hrows, ok, hl, hl2, q⟩ := h.ex
    refine ⟨_, (pss_cons (ps_set (i := 2) sc_law_below.nd rfl (Or.inr rfl) (pe_op op_rep (pe_lst (pa_cons pe_bl pa_nil)) (pe_callB call_len_seq (by rfl) A.T.len PySem.boot_len (pa_cons (pv 0) pa_nil))))
  (pss_cons (ps_for PassesOwn.never rfl (pi_sq (pv 1)) (pg_name (i := 3) sc_law_below.nd rfl (Or.inl rfl))
    (pss_one (ps_asg pe_bl (pg_sub (pv 2) (pv 3) set_list))))
  (pss_cons (ps_for PassesOwn.never rfl (pi_range3 rfl A.T.range (pa_cons (pe_op op_sub (pe_callB call_len_seq (by rfl) A.T.len PySem.boot_len (pa_cons (pv 0) pa_nil)) pe_int) (pa_cons (pe_un un_neg pe_int) (pa_cons (pe_un un_neg pe_int) pa_nil)))) (pg_name (i := 4) sc_law_below.nd rfl (Or.inl rfl))
    (pss_one (ps_if (pt_val (pe_ix (ix_any K rfl) (pv 2) (pv 4) (fun _ _ => rfl)))
    (pss_one (ps_for PassesOwn.never rfl (pi_list (pe_call (ok_law_parts A) (hr.mono (by omega)) rfl A.law_parts.m A.law_parts.F.kp A.law_parts.b .nil pass0 (pa_cons (pe_ix ix_list (pv 0) (pv 4) (fun _ _ => rfl)) pa_nil))) (pg_name (i := 5) sc_law_below.nd rfl (Or.inl rfl))
    (pss_one (ps_asg pe_bl (pg_sub (pv 2) (pv 5) set_list)))))
    pss_nil)))
  (pss_one (ps_ret (pe_lc (own := [("at", 4)]) (g := (gName 4)) rfl sc_law_below.nd (pi_range1 rfl A.T.range (pa_cons (pe_callB call_len_seq (by rfl) A.T.len PySem.boot_len (pa_cons (pv 0) pa_nil)) pa_nil)) (blkOk_by (own := [("at", 4)]) (N := ["sheet", "rows", "marked", "row", "at", "part"]) (sc := defScope s_law_below) (by decide +kernel)) (fun _ _ _ _ _ => pg_name (i := 4) sc_law_below.nd rfl (Or.inl rfl)) (fun _ _ _ _ _ => pts_one (pt_val (pe_ix (ix_any K rfl) (pv 2) (pv 4) (fun _ _ => rfl)))) (fun _ _ _ _ _ => (pv 4)))))))), ?_⟩
    have hrl := hds.len
    rw [List.length_map] at hrl
    refine ⟨by show 1 ≤ sizeLine; decide, fun p np => ?_⟩
    have ap : Adv [] H (upd H p (.lst [.bl false])) := Adv.new np
    refine ⟨_, rfl, sh, rs, rfl, .inl (SqL.of (ap.same _ _ hsh)), p, (rs.length : Nat), [.bl false], rfl, rfl, upd_same, by omega, by omega, by rw [sizeLine_eq]; simp; omega, fun D nD => ?_⟩
    have e : (List.replicate ((rs.length : Nat) : Int).toNat [V.bl false]).flatten = mbV (fun _ => false) ns.length := by rw [Int.toNat_natCast, hrl]; exact mb_zero _
    rw [e]
    have aD : Adv [] H (upd (upd H p (.lst [.bl false])) D (.lst (mbV (fun _ => false) ns.length))) := ap.newT nD
    have nD0 : H D = none := ap.free (by simp) nD
    refine for_sq (a := rw_) (xs := nV rows) rfl (fun i σ' H' => ∃ x3 x4 x5, σ' = [some (.ref sh), some (.ref rw_), some (.ref D), x3, x4, x5] ∧ H' D = some (.lst (mbV (markP (fun _ => false) (rows.take i)) ns.length)) ∧ Adv [] H H')
      ⟨none, none, none, rfl, by rw [upd_same, List.take_zero, markP_nil], aD⟩ ?_ ?_ ?_
    · rcases hrw with hrw | hrw
      · refine .inl ?_
        rintro i σ' H' hi ⟨x3, x4, x5, rfl, hD, a⟩
        exact SqL.of (a.same _ _ hrw)
      · refine .inr ?_
        rintro i σ' H' hi ⟨x3, x4, x5, rfl, hD, a⟩
        exact (hrw.adv a).sq A.W
    · rintro i x σ' H' hx ⟨x3, x4, x5, rfl, hD, a⟩
      obtain ⟨r, hr1, rfl⟩ : ∃ r, rows[i]? = some r ∧ V.int (r : Nat) = x := by
        unfold nV at hx
        rw [List.getElem?_map, Option.map_eq_some_iff] at hx
        exact hx
      have hrn := hrows r (List.mem_of_getElem? hr1)
      refine ⟨_, rfl, _, rfl, D, _, _, r, rfl, rfl, hD, ixN_of (by rw [mb_len]; exact hrn), ?_⟩
      refine ⟨_, _, _, rfl, ?_, a.mut nD0⟩
      rw [upd_same, mb_set, markP_snoc, List.take_succ, hr1]
      rfl
    · rintro σ' H' ⟨x3, x4, x5, rfl, hD, a⟩
      have et : rows.take (nV rows).length = rows := by unfold nV; rw [List.length_map, List.take_length]
      rw [et] at hD
      refine ⟨_, rfl, sh, rs, rfl, .inl (SqL.of (a.same _ _ hsh)), _, _, rfl, rfl, 1, rfl, 1, rfl, (rs.length : Int) - 1, -1, -1, _, rfl, RgC.neg (by omega) (by omega) (by omega) (by omega), ?_⟩
      have en : ((rs.length : Int) - 1 - -1).toNat = ns.length := by omega
      rw [en]
      refine for_rangeC (lo := (rs.length : Int) - 1) (c := -1) (n := ns.length) (fun i σ' H' => ∃ x3 x4 x5 m, σ' = [some (.ref sh), some (.ref rw_), some (.ref D), x3, x4, x5] ∧ H' D = some (.lst (mbV m ns.length)) ∧ markDown ns ns.length (markP (fun _ => false) rows) = markDown ns (ns.length - i) m ∧ Adv [] H H')
        ⟨_, _, _, _, rfl, hD, rfl, a⟩ ?_ ?_
      · rintro i σ' H1 hi ⟨x3, x4, x5, m, rfl, hD, hm, a⟩
        obtain ⟨k, hk⟩ : ∃ k, ns.length - i = k + 1 := ⟨ns.length - i - 1, by omega⟩
        have ek : (rs.length : Int) - 1 + (i : Nat) * -1 = (k : Nat) := by omega
        rw [ek]
        have hkn : k < ns.length := by omega
        have ek2 : ns.length - (i + 1) = k := by omega
        rw [hk] at hm
        have hnk : ns[k]? = some ns[k] := List.getElem?_eq_getElem hkn
        refine ⟨_, rfl, _, rfl, .inl ⟨D, _, (k : Nat), _, rfl, rfl, SqL.of hD, atI_nat (mb_at hkn), m k, rfl, iteB (fun e => ?_) (fun e => ?_)⟩⟩
        · obtain ⟨v, hv, isv⟩ := hds.get (i := k) (d := (ns[k]).data) (by rw [List.getElem?_map, hnk]; rfl)
          obtain ⟨b, rfl, hb⟩ := nd_is isv
          refine ⟨_, rfl, _, rfl, sh, rs, (k : Nat), _, rfl, rfl, SqL.of (a.same _ _ hsh), atI_nat hv, [], b, ns[k], rfl, hb.adv a, fun l H2 nl hl a2 => ?_⟩
          have hl' : H2 l = some (.lst (nV (ns[k]).parts)) := hl
          have aH2 := a.trans a2
          have nl0 : l ≠ D := fun z => by rw [z, hD] at nl; cases nl
          refine ⟨l, rfl, ⟨_, SqL.of hl'⟩, ?_⟩
          refine for_list (a := l) (xs := nV (ns[k]).parts) (fun j σ' H' => ∃ x5, σ' = [some (.ref sh), some (.ref rw_), some (.ref D), x3, some (.int (k : Nat)), x5] ∧ H' D = some (.lst (mbV (markP m ((ns[k]).parts.take j)) ns.length)) ∧ H' l = some (.lst (nV (ns[k]).parts)) ∧ Adv [] H H')
            ⟨_, rfl, by rw [List.take_zero, markP_nil]; exact a2.same _ _ hD, hl', aH2⟩ ?_ ?_ ?_
          · rintro j σ' H' hj ⟨x5, rfl, hD', hl2, a'⟩
            exact SqL.of hl2
          · rintro j x σ' H' hx ⟨x5, rfl, hD', hl2, a'⟩
            obtain ⟨r, hr1, rfl⟩ : ∃ r, (ns[k]).parts[j]? = some r ∧ V.int (r : Nat) = x := by
              unfold nV at hx
              rw [List.getElem?_map, Option.map_eq_some_iff] at hx
              exact hx
            have hrn := parts_lt (ok.2 k _ hnk) r (List.mem_of_getElem? hr1)
            refine ⟨_, rfl, _, rfl, D, _, _, r, rfl, rfl, hD', ixN_of (by rw [mb_len]; omega), ?_⟩
            refine ⟨_, rfl, ?_, by rw [upd_ne nl0]; exact hl2, a'.mut nD0⟩
            rw [upd_same, mb_set, markP_snoc, List.take_succ, hr1]
            rfl
          · rintro σ' H' ⟨x5, rfl, hD', hl2, a'⟩
            have et : (ns[k]).parts.take (nV (ns[k]).parts).length = (ns[k]).parts := by unfold nV; rw [List.length_map, List.take_length]
            rw [et] at hD'
            refine ⟨_, _, _, _, rfl, hD', ?_, a'⟩
            rw [hm, ek2]
            show markDown ns k (if m k = true then markP m ((ns[k]?.getD .no).parts) else m) = _
            rw [if_pos e, hnk]
            rfl
        · refine ⟨_, _, _, m, rfl, hD, ?_, a⟩
          rw [hm, ek2]
          show markDown ns k (if m k = true then markP m ((ns[k]?.getD .no).parts) else m) = _
          rw [if_neg (by rw [e]; decide)]
      · rintro σ' H1 ⟨x3, x4, x5, m, rfl, hD, hm, a⟩
        rw [Nat.sub_self] at hm
        have hm' : marked ns rows = m := hm
        refine ⟨_, rfl, sh, rs, rfl, .inl (SqL.of (a.same _ _ hsh)), _, rfl, by omega, by omega, fun L nL => ?_⟩
        refine lc_filtR (n := ((rs.length : Nat) : Int).toNat) (fun i => V.int (i : Nat)) m nL (by omega) ?_ ?_
        · intro i H2 acc R R0 hi a2 hL k1 k0
          have hi' : i < ns.length := by omega
          have hD2 := a2.same _ _ hD
          refine ⟨rfl, _, rfl, _, rfl, .inl ⟨D, _, _, _, rfl, rfl, SqL.of hD2, atI_nat0 (mb_at hi'), m i, rfl, iteB (fun e => ?_) (fun e => k0 e H2 hL a2)⟩⟩
          refine ⟨_, rfl, ?_⟩
          rw [Int.zero_add]
          exact k1 e H2 hL a2
        · intro H2 a2 hL
          refine q L H2 (a.free (by simp) nL) ?_ (a.trans a2)
          rw [hL]
          unfold belowF nV
          rw [hm', Int.toNat_natCast, hrl]
/-! ### rows_below -/
theorem ok_rows_below (A : All K mg w) : FnOk P w K mg base CX0 2 A.rows_below.f A.rows_below.fd ["sheet", "rows"] spBelow := by
  refine A.rows_below.F.ok sc_rows_below (fun vs H Q E h => ?_) (fun cdv Ar outer s H vs Q E hr h => ?_)
  · obtain ⟨sh, rw_, ns, rs, rows, boxed, rfl, _⟩ := h.ex
    rfl
  · obtain ⟨sh, rw_, ns, rs, rows, boxed, rfl, hsh, hds, hrw, hrows, ok, hl, hl2, q⟩ := h.ex
    refine ⟨_, (pss_cons (ps_set (i := 2) sc_rows_below.nd rfl (Or.inr rfl) (pe_op op_rep (pe_lst (pa_cons pe_bl pa_nil)) (pe_callB call_len_seq (by rfl) A.T.len PySem.boot_len (pa_cons (pv 0) pa_nil))))
  (pss_cons (ps_for PassesOwn.never rfl (pi_sq (pv 1)) (pg_name (i := 3) sc_rows_below.nd rfl (Or.inl rfl))
    (pss_one (ps_asg pe_bl (pg_sub (pv 2) (pv 3) set_list))))
  (pss_cons (ps_for PassesOwn.never rfl (pi_range3 rfl A.T.range (pa_cons (pe_op op_sub (pe_callB call_len_seq (by rfl) A.T.len PySem.boot_len (pa_cons (pv 0) pa_nil)) pe_int) (pa_cons (pe_un un_neg pe_int) (pa_cons (pe_un un_neg pe_int) pa_nil)))) (pg_name (i := 3) sc_rows_below.nd rfl (Or.inl rfl))
    (pss_one (ps_if (pt_val (pe_ix (ix_any K rfl) (pv 2) (pv 3) (fun _ _ => rfl)))
    (pss_one (ps_for PassesOwn.never rfl (pi_tup (pe_call (ok_parts A) (hr.mono (by omega)) rfl A.parts.m A.parts.F.kp A.parts.b .nil pass0 (pa_cons (pe_ix ix_list (pv 0) (pv 3) (fun _ _ => rfl)) pa_nil))) (pg_name (i := 4) sc_rows_below.nd rfl (Or.inl rfl))
    (pss_one (ps_asg pe_bl (pg_sub (pv 2) (pv 4) set_list)))))
    pss_nil)))
  (pss_one (ps_ret (pe_lc (own := [("row", 3)]) (g := (gName 3)) rfl sc_rows_below.nd (pi_range1 rfl A.T.range (pa_cons (pe_callB call_len_seq (by rfl) A.T.len PySem.boot_len (pa_cons (pv 0) pa_nil)) pa_nil)) (blkOk_by (own := [("row", 3)]) (N := ["sheet", "rows", "marked", "row", "part"]) (sc := defScope s_rows_below) (by decide +kernel)) (fun _ _ _ _ _ => pg_name (i := 3) sc_rows_below.nd rfl (Or.inl rfl)) (fun _ _ _ _ _ => pts_one (pt_val (pe_ix (ix_any K rfl) (pv 2) (pv 3) (fun _ _ => rfl)))) (fun _ _ _ _ _ => (pv 3)))))))), ?_⟩
    have hrl := hds.len
    rw [List.length_map] at hrl
    refine ⟨by show 1 ≤ sizeLine; decide, fun p np => ?_⟩
    have ap : Adv [] H (upd H p (.lst [.bl false])) := Adv.new np
    refine ⟨_, rfl, sh, rs, rfl, .inl (SqL.of (ap.same _ _ hsh)), p, (rs.length : Nat), [.bl false], rfl, rfl, upd_same, by omega, by omega, by rw [sizeLine_eq]; simp; omega, fun D nD => ?_⟩
    have e : (List.replicate ((rs.length : Nat) : Int).toNat [V.bl false]).flatten = mbV (fun _ => false) ns.length := by rw [Int.toNat_natCast, hrl]; exact mb_zero _
    rw [e]
    have aD : Adv [] H (upd (upd H p (.lst [.bl false])) D (.lst (mbV (fun _ => false) ns.length))) := ap.newT nD
    have nD0 : H D = none := ap.free (by simp) nD
    refine for_sq (a := rw_) (xs := nV rows) rfl (fun i σ' H' => ∃ x3 x4, σ' = [some (.ref sh), some (.ref rw_), some (.ref D), x3, x4] ∧ H' D = some (.lst (mbV (markP (fun _ => false) (rows.take i)) ns.length)) ∧ Adv [] H H')
      ⟨none, none, rfl, by rw [upd_same, List.take_zero, markP_nil], aD⟩ ?_ ?_ ?_
    · rcases hrw with hrw | hrw
      · refine .inl ?_
        rintro i σ' H' hi ⟨x3, x4, rfl, hD, a⟩
        exact SqL.of (a.same _ _ hrw)
      · refine .inr ?_
        rintro i σ' H' hi ⟨x3, x4, rfl, hD, a⟩
        exact (hrw.adv a).sq A.W
    · rintro i x σ' H' hx ⟨x3, x4, rfl, hD, a⟩
      obtain ⟨r, hr1, rfl⟩ : ∃ r, rows[i]? = some r ∧ V.int (r : Nat) = x := by
        unfold nV at hx
        rw [List.getElem?_map, Option.map_eq_some_iff] at hx
        exact hx
      have hrn := hrows r (List.mem_of_getElem? hr1)
      refine ⟨_, rfl, _, rfl, D, _, _, r, rfl, rfl, hD, ixN_of (by rw [mb_len]; exact hrn), ?_⟩
      refine ⟨_, _, rfl, ?_, a.mut nD0⟩
      rw [upd_same, mb_set, markP_snoc, List.take_succ, hr1]
      rfl
    · rintro σ' H' ⟨x3, x4, rfl, hD, a⟩
      have et : rows.take (nV rows).length = rows := by unfold nV; rw [List.length_map, List.take_length]
      rw [et] at hD
      refine ⟨_, rfl, sh, rs, rfl, .inl (SqL.of (a.same _ _ hsh)), _, _, rfl, rfl, 1, rfl, 1, rfl, (rs.length : Int) - 1, -1, -1, _, rfl, RgC.neg (by omega) (by omega) (by omega) (by omega), ?_⟩
      have en : ((rs.length : Int) - 1 - -1).toNat = ns.length := by omega
      rw [en]
      refine for_rangeC (lo := (rs.length : Int) - 1) (c := -1) (n := ns.length) (fun i σ' H' => ∃ x3 x4 m, σ' = [some (.ref sh), some (.ref rw_), some (.ref D), x3, x4] ∧ H' D = some (.lst (mbV m ns.length)) ∧ markDown ns ns.length (markP (fun _ => false) rows) = markDown ns (ns.length - i) m ∧ Adv [] H H')
        ⟨_, _, _, rfl, hD, rfl, a⟩ ?_ ?_
      · rintro i σ' H1 hi ⟨x3, x4, m, rfl, hD, hm, a⟩
        obtain ⟨k, hk⟩ : ∃ k, ns.length - i = k + 1 := ⟨ns.length - i - 1, by omega⟩
        have ek : (rs.length : Int) - 1 + (i : Nat) * -1 = (k : Nat) := by omega
        rw [ek]
        have hkn : k < ns.length := by omega
        have ek2 : ns.length - (i + 1) = k := by omega
        rw [hk] at hm
        have hnk : ns[k]? = some ns[k] := List.getElem?_eq_getElem hkn
        refine ⟨_, rfl, _, rfl, .inl ⟨D, _, (k : Nat), _, rfl, rfl, SqL.of hD, atI_nat (mb_at hkn), m k, rfl, iteB (fun e => ?_) (fun e => ?_)⟩⟩
        · obtain ⟨v, hv, isv⟩ := hds.get (i := k) (d := (ns[k]).data) (by rw [List.getElem?_map, hnk]; rfl)
          obtain ⟨b, rfl, hb⟩ := nd_is isv
          refine ⟨_, rfl, _, rfl, sh, rs, (k : Nat), _, rfl, rfl, SqL.of (a.same _ _ hsh), atI_nat hv, [], b, ns[k], rfl, hb.adv a, fun l H2 nl hl a2 => ?_⟩
          have hl' : H2 l = some (.tup (nV (ns[k]).parts)) := hl
          have aH2 := a.trans a2
          have nl0 : l ≠ D := fun z => by rw [z, hD] at nl; cases nl
          refine ⟨l, rfl, ⟨_, SqT.of hl'⟩, ?_⟩
          refine for_tup (a := l) (xs := nV (ns[k]).parts) (fun j σ' H' => ∃ x5, σ' = [some (.ref sh), some (.ref rw_), some (.ref D), some (.int (k : Nat)), x5] ∧ H' D = some (.lst (mbV (markP m ((ns[k]).parts.take j)) ns.length)) ∧ H' l = some (.tup (nV (ns[k]).parts)) ∧ Adv [] H H')
            ⟨_, rfl, by rw [List.take_zero, markP_nil]; exact a2.same _ _ hD, hl', aH2⟩ ?_ ?_ ?_
          · rintro j σ' H' hj ⟨x5, rfl, hD', hl2, a'⟩
            exact SqT.of hl2
          · rintro j x σ' H' hx ⟨x5, rfl, hD', hl2, a'⟩
            obtain ⟨r, hr1, rfl⟩ : ∃ r, (ns[k]).parts[j]? = some r ∧ V.int (r : Nat) = x := by
              unfold nV at hx
              rw [List.getElem?_map, Option.map_eq_some_iff] at hx
              exact hx
            have hrn := parts_lt (ok.2 k _ hnk) r (List.mem_of_getElem? hr1)
            refine ⟨_, rfl, _, rfl, D, _, _, r, rfl, rfl, hD', ixN_of (by rw [mb_len]; omega), ?_⟩
            refine ⟨_, rfl, ?_, by rw [upd_ne nl0]; exact hl2, a'.mut nD0⟩
            rw [upd_same, mb_set, markP_snoc, List.take_succ, hr1]
            rfl
          · rintro σ' H' ⟨x5, rfl, hD', hl2, a'⟩
            have et : (ns[k]).parts.take (nV (ns[k]).parts).length = (ns[k]).parts := by unfold nV; rw [List.length_map, List.take_length]
            rw [et] at hD'
            refine ⟨_, _, _, rfl, hD', ?_, a'⟩
            rw [hm, ek2]
            show markDown ns k (if m k = true then markP m ((ns[k]?.getD .no).parts) else m) = _
            rw [if_pos e, hnk]
            rfl
        · refine ⟨_, _, m, rfl, hD, ?_, a⟩
          rw [hm, ek2]
          show markDown ns k (if m k = true then markP m ((ns[k]?.getD .no).parts) else m) = _
          rw [if_neg (by rw [e]; decide)]
      · rintro σ' H1 ⟨x3, x4, m, rfl, hD, hm, a⟩
        rw [Nat.sub_self] at hm
        have hm' : marked ns rows = m := hm
        refine ⟨_, rfl, sh, rs, rfl, .inl (SqL.of (a.same _ _ hsh)), _, rfl, by omega, by omega, fun L nL => ?_⟩
        refine lc_filtR (n := ((rs.length : Nat) : Int).toNat) (fun i => V.int (i : Nat)) m nL (by omega) ?_ ?_
        · intro i H2 acc R R0 hi a2 hL k1 k0
          have hi' : i < ns.length := by omega
          have hD2 := a2.same _ _ hD
          refine ⟨rfl, _, rfl, _, rfl, .inl ⟨D, _, _, _, rfl, rfl, SqL.of hD2, atI_nat0 (mb_at hi'), m i, rfl, iteB (fun e => ?_) (fun e => k0 e H2 hL a2)⟩⟩
          refine ⟨_, rfl, ?_⟩
          rw [Int.zero_add]
          exact k1 e H2 hL a2
        · intro H2 a2 hL
          refine q L H2 (a.free (by simp) nL) ?_ (a.trans a2)
          rw [hL]
          unfold belowF nV
          rw [hm', Int.toNat_natCast, hrl]
end

set_option Elab.async false
set_option linter.all false
set_option maxRecDepth 100000
set_option maxHeartbeats 400000
open PySem PySem.Spec PyProof.Rows L2 LL
local macro_rules | `(tactic| walk_at "ne") => `(tactic| first | assumption | (apply Ne.symm; assumption) | exact ne_of_none (by walk_at "hp") (by assumption) | exact (ne_of_none (by walk_at "hp") (by assumption)).symm)
local macro_rules | `(tactic| walk_at "nm") => `(tactic| first | assumption | exact notin0 | exact notin1 (by walk_at "ne") | exact notin2 (by walk_at "ne") (by walk_at "ne"))
local macro_rules | `(tactic| walk_at "hp") => `(tactic| first | assumption | exact upd_same | (refine Eq.trans (upd_ne ?ne) ?hh; (case hh => walk_at "hp"); (case ne => walk_at "ne")) | (refine Adv.get' (by assumption) ?hh ?nn; (case hh => walk_at "hp"); (case nn => walk_at "nm")))
local macro_rules | `(tactic| walk_at "tp") => `(tactic| first | assumption | exact Tp.adv (by walk_at "tp") (by assumption) | exact Tp.adv (by walk_at "tp") (Adv.nil (by assumption)))
local macro_rules | `(tactic| walk_at "sq") => `(tactic| first | assumption | exact Tp.sq (by assumption) (by walk_at "tp") | exact SqT.of (by walk_at "hp"))
local macro_rules | `(tactic| walk_at "at") => `(tactic| first | exact atI_nat (j := 0) rfl | exact atI_nat (j := 1) rfl | exact atI_nat (j := 2) rfl | exact atI_nat (j := 3) rfl | exact atI_nat (by assumption) | (rw [Int.zero_add]; exact atI_nat (by assumption)))
local macro_rules | `(tactic| walk_at "bb") => `(tactic| first | assumption | decide | exact rfl)
local macro_rules | `(tactic| walk_at "ci") => `(tactic| first | omega | (dsimp only; omega) | (unfold CDiv; omega) | (unfold CMul; omega))
local macro_rules | `(tactic| walk_at "rd1") => `(tactic| first
  | with_reducible refine rd_c ?_
  | ((with_reducible refine' rd_var ?rh ?_); (case rh => exact rfl))
  | with_reducible refine rd_op ?_
  | with_reducible refine rd_seq ?_
  | with_reducible refine rd_asg ?_
  | with_reducible refine rd_gname ?_
  | with_reducible refine rd_ifS ?_
  | with_reducible refine rd_test ?_
  | with_reducible refine rd_tB ?_
  | with_reducible refine rd_blP ?_
  | ((with_reducible refine' iteY ?rh ?_); (case rh => walk_at "bb"))
  | ((with_reducible refine' iteN ?rh ?_); (case rh => walk_at "bb"))
  | with_reducible refine rd_ret ?_
  | with_reducible refine rd_nx ?_
  | ((with_reducible refine' rd_eq ?rh ?_); (case rh => exact rfl))
  | ((with_reducible refine' rd_ne ?rh ?_); (case rh => exact rfl))
  | with_reducible refine rd_add ?_
  | with_reducible refine rd_sub ?_
  | with_reducible refine rd_i0 ?_
  | with_reducible refine rd_and ?_
  | with_reducible refine rd_or ?_
  | with_reducible refine rd_not ?_
  | with_reducible refine rd_andV ?_
  | with_reducible refine rd_orV ?_
  | with_reducible refine rd_notV ?_
  | with_reducible refine rd_ifE ?_
  | with_reducible refine rd_isN ?_
  | with_reducible refine rd_notN ?_
  | with_reducible refine rd_cons ?_
  | with_reducible refine rd_nil ?_
  | with_reducible refine rd_tup ?_
  | with_reducible refine rd_lst ?_
  | with_reducible refine rd_call ?_
  | with_reducible refine rd_cb ?_
  | with_reducible refine rd_meth ?_
  | with_reducible refine rd_callS ?_
  | with_reducible refine rd_make ?_
  | with_reducible refine rd_rfl ?_
  | with_reducible refine rd_fld ?_
  | with_reducible refine rd_drop ?_
  | with_reducible refine rd_gsub ?_
  | with_reducible refine rd_gcons ?_
  | with_reducible refine rd_gnil ?_
  | with_reducible refine rd_par ?_
  | with_reducible refine rd_two ?_
  | with_reducible refine rd_par3 ?_
  | with_reducible refine rd_three ?_
  | with_reducible refine rd_int1 ?_
  | ((with_reducible refine' rd_i ?rh ?_); (case rh => walk_at "ci"))
  | with_reducible refine rd_part ?_
  | with_reducible refine rd_nopart ?_
  | with_reducible refine rd_int ?_
  | with_reducible refine rd_sl ?_
  | with_reducible refine rd_bm ?_
  | with_reducible refine rd_bm0 ?_
  | with_reducible refine rd_dgetT ?_
  | with_reducible refine rd_din ?_
  | with_reducible refine rd_dnin ?_
  | with_reducible refine rd_un ?_
  | ((with_reducible refine' rd_ixL ?rh ?re ?_); (case rh => walk_at "hp"); (case re => walk_at "at"))
  | ((with_reducible refine' rd_ixT ?rh ?re ?_); (case rh => walk_at "sq"); (case re => walk_at "at"))
  | ((with_reducible refine' rd_lenT ?rh ?_); (case rh => walk_at "sq"))
  | ((with_reducible refine' rd_tyL ?rh ?_); (case rh => walk_at "hp"))
  | ((with_reducible refine' rd_len ?rh ?_); (case rh => walk_at "hp"))
  | with_reducible refine rd_u ?_
  | ((with_reducible refine' rd_slL ?rh ?_); (case rh => walk_at "hp"))
  | with_reducible refine rd_for ?_
  | with_reducible refine rd_rng1 ?_
  | with_reducible refine rd_rng2 ?_
  | with_reducible refine rd_ints1 ?_
  | with_reducible refine rd_ints2 ?_
  | with_reducible refine rd_retN ?_)
local macro_rules | `(tactic| walk_at "rd") => `(tactic| repeat walk_at "rd1")
section
variable [KW]
variable {P : Program} {w : World} {K : PySem.W.Frag} {mg : Str → Option Value} {base : Heap}
theorem row_len (ns : List Nd) (n : Nd) : (rowF ns n).2.length ≤ ns.length + 1 := rowLe ns n
/-! ### merge -/
structure MergeP (vs : List V) (H : Hp) (Q : VK) : Prop where
  ex : ∃ (M : List Addr) (a b : Addr) (rs us : List V) (ns ms : List Nd) (bx : Bool), vs = [.ref a, .ref b] ∧ (∀ c ∈ M, H c ≠ none) ∧ H a = some (.lst rs) ∧ IsDs M H (ns.map Nd.data) rs ∧ H b = some (.lst us) ∧ IsDs M H (ms.map Nd.data) us ∧ okSheet bx ns ∧ okSheet bx ms ∧ ns.length ≤ 200000 ∧ ms.length ≤ 200000 ∧
    ∀ t g l rs' H', H g = none → H l = none → H' t = some (.tup [.ref g, .ref l]) → H' g = some (.lst rs') → H' l = some (.lst (nV (mrgF ns ms).2)) → IsDs M H' ((mrgF ns ms).1.map Nd.data) rs' → Adv [] H H' → Q (.ref t) H'
def spMerge : Sp := fun vs H Q _ => MergeP vs H Q
end

set_option Elab.async false
set_option linter.all false
set_option maxRecDepth 100000
set_option maxHeartbeats 400000
open PySem PySem.Spec PyProof.Rows L2 LL
def allNames : List Str := ["BadLogic", "BadSheet", "BadClaim", "BadModel", "BadPaper", "BadTerm", "BadEdit", "BadValue", "BadText", "BadSize", "TooMany", "NotBoxed", "NotProved", "NotThere", "NothingToUndo", "NothingToRedo"]
/-- the classes of the clauses -/
def errNames : List Str := ["BadLogic", "BadSheet", "BadClaim"]
/-- the classes of errors -/
structure Exs (K : PySem.W.Frag) (mg : Str → Option Value) where
  CE : Addr
  cA : Str → Addr
  mC : mg "CourtError" = some (.ref CE)
  mA : ∀ n ∈ allNames, mg n = some (.ref (cA n))
/-- what kind of error the class of this name is -/
structure NF {K : PySem.W.Frag} {mg : Str → Option Value} (Z : Exs K mg) (nm : Str) : Prop where
  eD : ExcC K (Z.cA nm)
  k : ∀ n ∈ allNames, PySem.W.kitOne K (.ref (Z.cA nm)) (.ref (Z.cA n)) = some (decide (n = nm))
  kC : PySem.W.kitOne K (.ref (Z.cA nm)) (.ref Z.CE) = some true
  kV : PySem.W.kitOne K (.ref (Z.cA nm)) (.type "ValueError") = some true
  hC : PySem.W.exmOne K (.ref (Z.cA nm)) (.ref Z.CE) = some true
  hX : ∀ n ∈ errNames, PySem.W.exmOne K (.ref (Z.cA nm)) (.ref (Z.cA n)) = some (decide (n = nm))
def allBs (nm : Str) : List V := allNames.map fun n => V.bl (decide (n = nm))

structure Er_BadLogic {K : PySem.W.Frag} {mg : Str → Option Value} (Z : Exs K mg) : Prop where
  Q : PySem.W.excIn K (Z.cA "BadLogic") [.type "ValueError", .type "Exception", .type "BaseException", .type "object"] "ValueError.__new__" = true
  K_ : PySem.W.keepIn K (.ref (Z.cA "BadLogic")) = true
  B : PySem.W.subIn K (.ref (Z.cA "BadLogic")) (.type "BaseException") = some true
  T : PySem.W.typeIn K (.ref (Z.cA "BadLogic")) = some (.type "type")
  N : NF Z "BadLogic"
abbrev s_BadSheet : Stmt := inClass (top 3) 0
theorem sc_BadSheet : FnScope ["self", "row"] ["self", "row"] (defScope s_BadSheet) := ⟨rfl, rfl, rfl, by decide +kernel, rfl, by decide +kernel, by decide +kernel⟩
structure Er_BadSheet {K : PySem.W.Frag} {mg : Str → Option Value} (Z : Exs K mg) where
  O : OexC K (Z.cA "BadSheet")
  f : Addr
  fd : FuncData
  I : PySem.W.findIn K (.ref (Z.cA "BadSheet")) "__init__" = some (some (.ref f))
  T : PySem.W.typeIn K (.ref f) = some (.type "function")
  F : Fun K "__init__" "BadSheet.__init__" s_BadSheet f fd
  b : Binds K fd ["self", "row"] []
  X : XfC K (Z.cA "BadSheet")
  A_ : PySem.W.findIn K (.ref (Z.cA "BadSheet")) "row" = some none
  N : NF Z "BadSheet"
abbrev s_BadClaim : Stmt := inClass (top 4) 0
theorem sc_BadClaim : FnScope ["self", "word"] ["self", "word"] (defScope s_BadClaim) := ⟨rfl, rfl, rfl, by decide +kernel, rfl, by decide +kernel, by decide +kernel⟩
structure Er_BadClaim {K : PySem.W.Frag} {mg : Str → Option Value} (Z : Exs K mg) where
  O : OexC K (Z.cA "BadClaim")
  f : Addr
  fd : FuncData
  I : PySem.W.findIn K (.ref (Z.cA "BadClaim")) "__init__" = some (some (.ref f))
  T : PySem.W.typeIn K (.ref f) = some (.type "function")
  F : Fun K "__init__" "BadClaim.__init__" s_BadClaim f fd
  b : Binds K fd ["self", "word"] []
  X : XfC K (Z.cA "BadClaim")
  A_ : PySem.W.findIn K (.ref (Z.cA "BadClaim")) "word" = some none
  N : NF Z "BadClaim"
section
variable [KW]
variable {P : Program} {w : World} {K : PySem.W.Frag} {mg : Str → Option Value} {base : Heap}
/-! ### __init__ -/
def spInit (S : Addr) (fl : Str) : Sp := fun vs H Q _ => ∃ (a : Addr) (y : V), vs = [.ref a, y] ∧ H a = some (exo a S none) ∧ ∀ dx, H dx = none → dx ≠ a → Q .non (upd (upd H dx (exd dx [(fl, y)])) a (exo a S (some dx)))
theorem ok_BadSheet {Z : Exs K mg} (Z1 : Er_BadSheet Z) : FnOk P w K mg base CX0 1 Z1.f Z1.fd ["self", "row"] (spInit (Z.cA "BadSheet") "row") := by
  refine Z1.F.ok sc_BadSheet (fun vs H Q E h => ?_) (fun cdv Ar outer s H vs Q E hr h => ?_)
  · obtain ⟨a, y, rfl, _⟩ := h
    rfl
  · obtain ⟨a, y, rfl, ha, q⟩ := h
    refine ⟨_, pss_one (ps_ost (pv 0) (pv 1)), ?_⟩
    exact ⟨_, rfl, _, rfl, a, Z.cA "BadSheet", rfl, Z1.O, Z1.A_, .inl ⟨ha, fun dx n1 n2 => q dx n1 n2⟩⟩
theorem ok_BadClaim {Z : Exs K mg} (Z1 : Er_BadClaim Z) : FnOk P w K mg base CX0 1 Z1.f Z1.fd ["self", "word"] (spInit (Z.cA "BadClaim") "word") := by
  refine Z1.F.ok sc_BadClaim (fun vs H Q E h => ?_) (fun cdv Ar outer s H vs Q E hr h => ?_)
  · obtain ⟨a, y, rfl, _⟩ := h
    rfl
  · obtain ⟨a, y, rfl, ha, q⟩ := h
    refine ⟨_, pss_one (ps_ost (pv 0) (pv 1)), ?_⟩
    exact ⟨_, rfl, _, rfl, a, Z.cA "BadClaim", rfl, Z1.O, Z1.A_, .inl ⟨ha, fun dx n1 n2 => q dx n1 n2⟩⟩
/-! ### _law_named -/
def spNamed (D : Addr) (nm : Str) : Addr × Obj → Sp := fun p vs H Q _ => ∃ (d : Option Addr), vs = [.ref p.1] ∧ Zc (.ref D) d p.2 ∧ (∃ fs, p.2.data = .fields fs) ∧ (∀ dd, d = some dd → ∃ fs, H dd = some (.xd fs)) ∧
  ∀ H', Adv [] H H' → Q (.str nm) H'
theorem ok_law_named (A : All K mg w) (Z : Exs K mg) {nm : Str} (N : NF Z nm) (j : Nat) (hj : allNames[j]? = some nm) (hc : ((allBs nm).countP fun z => eqV z (V.bl true)) = 1) (hjt : (allBs nm)[j]? = some (V.bl true)) (hjf : ∀ m, m < j → ∀ z, (allBs nm)[m]? = some z → eqV z (V.bl true) = false) :
    FnP P w K mg base 1 A.law_named.f A.law_named.fd ["error"] (spNamed (Z.cA nm) nm) := by
  refine okP A.law_named.F sc_law_named (fun p vs H Q E h => ?_) (fun cdv Ar outer s H vs Q E p hr h => ?_)
  · obtain ⟨d, rfl, _⟩ := h
    rfl
  · obtain ⟨d, rfl, hz, hf, hd, q⟩ := h
    have hdA : ∀ {H'}, Adv [] H H' → ∀ dd, d = some dd → ∃ fs, H' dd = some (.xd fs) := fun a dd e => by
      obtain ⟨fs, h⟩ := hd dd e
      exact ⟨fs, a _ _ (by simp) h⟩
    refine ⟨_, (pss_cons (ps_set (i := 1) sc_law_named.nd rfl (Or.inl rfl) (pe_m1 PySem.F.slot_str_split PySem.F.type_str_split mt_split pe_str pe_str))
  (pss_cons (ps_set (i := 2) sc_law_named.nd rfl (Or.inl rfl) (pe_lst (pa_cons (pe_callB (call_isP N.eD hz hf (List.mem_singleton.mpr rfl)) (by rfl) A.T.isinstance (by decide +kernel) (pa_cons (pv 0) (pa_cons (pe_glob (v := .ref (Z.cA "BadLogic")) rfl (Z.mA "BadLogic" (by decide)) rfl) pa_nil))) (pa_cons (pe_callB (call_isP N.eD hz hf (List.mem_singleton.mpr rfl)) (by rfl) A.T.isinstance (by decide +kernel) (pa_cons (pv 0) (pa_cons (pe_glob (v := .ref (Z.cA "BadSheet")) rfl (Z.mA "BadSheet" (by decide)) rfl) pa_nil))) (pa_cons (pe_callB (call_isP N.eD hz hf (List.mem_singleton.mpr rfl)) (by rfl) A.T.isinstance (by decide +kernel) (pa_cons (pv 0) (pa_cons (pe_glob (v := .ref (Z.cA "BadClaim")) rfl (Z.mA "BadClaim" (by decide)) rfl) pa_nil))) (pa_cons (pe_callB (call_isP N.eD hz hf (List.mem_singleton.mpr rfl)) (by rfl) A.T.isinstance (by decide +kernel) (pa_cons (pv 0) (pa_cons (pe_glob (v := .ref (Z.cA "BadModel")) rfl (Z.mA "BadModel" (by decide)) rfl) pa_nil))) pa_nil))))))
  (pss_cons (ps_set (i := 2) sc_law_named.nd rfl (Or.inl rfl) (pe_op op_cat (pv 2) (pe_lst (pa_cons (pe_callB (call_isP N.eD hz hf (List.mem_singleton.mpr rfl)) (by rfl) A.T.isinstance (by decide +kernel) (pa_cons (pv 0) (pa_cons (pe_glob (v := .ref (Z.cA "BadPaper")) rfl (Z.mA "BadPaper" (by decide)) rfl) pa_nil))) (pa_cons (pe_callB (call_isP N.eD hz hf (List.mem_singleton.mpr rfl)) (by rfl) A.T.isinstance (by decide +kernel) (pa_cons (pv 0) (pa_cons (pe_glob (v := .ref (Z.cA "BadTerm")) rfl (Z.mA "BadTerm" (by decide)) rfl) pa_nil))) (pa_cons (pe_callB (call_isP N.eD hz hf (List.mem_singleton.mpr rfl)) (by rfl) A.T.isinstance (by decide +kernel) (pa_cons (pv 0) (pa_cons (pe_glob (v := .ref (Z.cA "BadEdit")) rfl (Z.mA "BadEdit" (by decide)) rfl) pa_nil))) (pa_cons (pe_callB (call_isP N.eD hz hf (List.mem_singleton.mpr rfl)) (by rfl) A.T.isinstance (by decide +kernel) (pa_cons (pv 0) (pa_cons (pe_glob (v := .ref (Z.cA "BadValue")) rfl (Z.mA "BadValue" (by decide)) rfl) pa_nil))) pa_nil)))))))
  (pss_cons (ps_set (i := 2) sc_law_named.nd rfl (Or.inl rfl) (pe_op op_cat (pv 2) (pe_lst (pa_cons (pe_callB (call_isP N.eD hz hf (List.mem_singleton.mpr rfl)) (by rfl) A.T.isinstance (by decide +kernel) (pa_cons (pv 0) (pa_cons (pe_glob (v := .ref (Z.cA "BadText")) rfl (Z.mA "BadText" (by decide)) rfl) pa_nil))) (pa_cons (pe_callB (call_isP N.eD hz hf (List.mem_singleton.mpr rfl)) (by rfl) A.T.isinstance (by decide +kernel) (pa_cons (pv 0) (pa_cons (pe_glob (v := .ref (Z.cA "BadSize")) rfl (Z.mA "BadSize" (by decide)) rfl) pa_nil))) (pa_cons (pe_callB (call_isP N.eD hz hf (List.mem_singleton.mpr rfl)) (by rfl) A.T.isinstance (by decide +kernel) (pa_cons (pv 0) (pa_cons (pe_glob (v := .ref (Z.cA "TooMany")) rfl (Z.mA "TooMany" (by decide)) rfl) pa_nil))) (pa_cons (pe_callB (call_isP N.eD hz hf (List.mem_singleton.mpr rfl)) (by rfl) A.T.isinstance (by decide +kernel) (pa_cons (pv 0) (pa_cons (pe_glob (v := .ref (Z.cA "NotBoxed")) rfl (Z.mA "NotBoxed" (by decide)) rfl) pa_nil))) pa_nil)))))))
  (pss_cons (ps_set (i := 2) sc_law_named.nd rfl (Or.inl rfl) (pe_op op_cat (pv 2) (pe_lst (pa_cons (pe_callB (call_isP N.eD hz hf (List.mem_singleton.mpr rfl)) (by rfl) A.T.isinstance (by decide +kernel) (pa_cons (pv 0) (pa_cons (pe_glob (v := .ref (Z.cA "NotProved")) rfl (Z.mA "NotProved" (by decide)) rfl) pa_nil))) (pa_cons (pe_callB (call_isP N.eD hz hf (List.mem_singleton.mpr rfl)) (by rfl) A.T.isinstance (by decide +kernel) (pa_cons (pv 0) (pa_cons (pe_glob (v := .ref (Z.cA "NotThere")) rfl (Z.mA "NotThere" (by decide)) rfl) pa_nil))) (pa_cons (pe_callB (call_isP N.eD hz hf (List.mem_singleton.mpr rfl)) (by rfl) A.T.isinstance (by decide +kernel) (pa_cons (pv 0) (pa_cons (pe_glob (v := .ref (Z.cA "NothingToUndo")) rfl (Z.mA "NothingToUndo" (by decide)) rfl) pa_nil))) (pa_cons (pe_callB (call_isP N.eD hz hf (List.mem_singleton.mpr rfl)) (by rfl) A.T.isinstance (by decide +kernel) (pa_cons (pv 0) (pa_cons (pe_glob (v := .ref (Z.cA "NothingToRedo")) rfl (Z.mA "NothingToRedo" (by decide)) rfl) pa_nil))) pa_nil)))))))
  (pss_cons (ps_if (PW.pt (pw_or (pt_cmpR op_ne (pe_bm PySem.F.plainAttrs_list PySem.F.slot_list_count PySem.F.type_list_count mt_countF (pv 2) (pa_cons pe_bl pa_nil)) pe_int (nomark _)) (pw_or (pt_not (pt_val (pe_callB (call_isP N.eD hz hf (List.mem_singleton.mpr rfl)) (by rfl) A.T.isinstance (by decide +kernel) (pa_cons (pv 0) (pa_cons (pe_glob (v := .ref Z.CE) rfl Z.mC rfl) pa_nil))))) (pw_or1 (pt_not (pt_val (pe_callB (call_isP N.eD hz hf (List.mem_singleton.mpr rfl)) (by rfl) A.T.isinstance (by decide +kernel) (pa_cons (pv 0) (pa_cons (pe_bltn (v := .ty "ValueError") (by rfl) A.T.ValueError (by decide +kernel) rfl) pa_nil)))))))))
    (pss_one (ps_ret pe_str))
    pss_nil)
  (pss_one (ps_ret (pe_ix ix_list (pv 1) (pe_bm PySem.F.plainAttrs_list PySem.F.slot_list_index PySem.F.type_list_index mt_index (pv 2) (pa_cons pe_bl pa_nil)) (fun _ _ => rfl)))))))))), ?_⟩
    refine ⟨⟨_, rfl⟩, _, _, rfl, rfl, rfl, by show _ ≤ sizeLine; decide +kernel, ?_⟩
    intro p0 np0
    have a0 : Adv [] H (upd H p0 (.lst (allNames.map V.str))) := Adv.new np0
    have es : Txt.split "BadLogic BadSheet BadClaim BadModel BadPaper BadTerm BadEdit BadValue BadText BadSize TooMany NotBoxed NotProved NotThere NothingToUndo NothingToRedo" " " = allNames := by decide +kernel
    rw [es]
    refine ⟨_, rfl, _, _, _, rfl, fun u h => h, hdA a0, (N.k "BadLogic" (by decide)), _, rfl, _, _, _, rfl, fun u h => h, hdA a0, (N.k "BadSheet" (by decide)), _, rfl, _, _, _, rfl, fun u h => h, hdA a0, (N.k "BadClaim" (by decide)), _, rfl, _, _, _, rfl, fun u h => h, hdA a0, (N.k "BadModel" (by decide)), by show 4 ≤ sizeLine; decide, fun p1 np1 => ?_⟩
    have a1 : Adv [] H (upd (upd H p0 (.lst (allNames.map V.str))) p1 (.lst [.bl (decide (("BadLogic" : Str) = nm)), .bl (decide (("BadSheet" : Str) = nm)), .bl (decide (("BadClaim" : Str) = nm)), .bl (decide (("BadModel" : Str) = nm))])) := a0.newT np1
    have b1 : Adv [] (upd H p0 (.lst (allNames.map V.str))) (upd (upd H p0 (.lst (allNames.map V.str))) p1 (.lst [.bl (decide (("BadLogic" : Str) = nm)), .bl (decide (("BadSheet" : Str) = nm)), .bl (decide (("BadClaim" : Str) = nm)), .bl (decide (("BadModel" : Str) = nm))])) := Adv.new np1
    refine ⟨_, rfl, _, rfl, _, _, _, rfl, fun u h => h, hdA a1, (N.k "BadPaper" (by decide)), _, rfl, _, _, _, rfl, fun u h => h, hdA a1, (N.k "BadTerm" (by decide)), _, rfl, _, _, _, rfl, fun u h => h, hdA a1, (N.k "BadEdit" (by decide)), _, rfl, _, _, _, rfl, fun u h => h, hdA a1, (N.k "BadValue" (by decide)), by show 4 ≤ sizeLine; decide, ?_⟩
    intro p2 np2
    have a2 := a1.newT (o := .lst [.bl (decide (("BadPaper" : Str) = nm)), .bl (decide (("BadTerm" : Str) = nm)), .bl (decide (("BadEdit" : Str) = nm)), .bl (decide (("BadValue" : Str) = nm))]) np2
    have b2 := b1.newT (o := .lst [.bl (decide (("BadPaper" : Str) = nm)), .bl (decide (("BadTerm" : Str) = nm)), .bl (decide (("BadEdit" : Str) = nm)), .bl (decide (("BadValue" : Str) = nm))]) np2
    refine ⟨p1, p2, [.bl (decide (("BadLogic" : Str) = nm)), .bl (decide (("BadSheet" : Str) = nm)), .bl (decide (("BadClaim" : Str) = nm)), .bl (decide (("BadModel" : Str) = nm))], [.bl (decide (("BadPaper" : Str) = nm)), .bl (decide (("BadTerm" : Str) = nm)), .bl (decide (("BadEdit" : Str) = nm)), .bl (decide (("BadValue" : Str) = nm))], rfl, rfl, ?_, upd_same, by show 8 ≤ sizeLine; decide, ?_⟩
    · rw [upd_ne (ne_of_none (o := .lst [.bl (decide (("BadLogic" : Str) = nm)), .bl (decide (("BadSheet" : Str) = nm)), .bl (decide (("BadClaim" : Str) = nm)), .bl (decide (("BadModel" : Str) = nm))]) upd_same np2)]; exact upd_same
    intro p3 np3
    have a3 := a2.newT (o := .lst [.bl (decide (("BadLogic" : Str) = nm)), .bl (decide (("BadSheet" : Str) = nm)), .bl (decide (("BadClaim" : Str) = nm)), .bl (decide (("BadModel" : Str) = nm)), .bl (decide (("BadPaper" : Str) = nm)), .bl (decide (("BadTerm" : Str) = nm)), .bl (decide (("BadEdit" : Str) = nm)), .bl (decide (("BadValue" : Str) = nm))]) np3
    have b3 := b2.newT (o := .lst [.bl (decide (("BadLogic" : Str) = nm)), .bl (decide (("BadSheet" : Str) = nm)), .bl (decide (("BadClaim" : Str) = nm)), .bl (decide (("BadModel" : Str) = nm)), .bl (decide (("BadPaper" : Str) = nm)), .bl (decide (("BadTerm" : Str) = nm)), .bl (decide (("BadEdit" : Str) = nm)), .bl (decide (("BadValue" : Str) = nm))]) np3
    refine ⟨_, rfl, _, rfl, _, _, _, rfl, fun u h => h, hdA a3, (N.k "BadText" (by decide)), _, rfl, _, _, _, rfl, fun u h => h, hdA a3, (N.k "BadSize" (by decide)), _, rfl, _, _, _, rfl, fun u h => h, hdA a3, (N.k "TooMany" (by decide)), _, rfl, _, _, _, rfl, fun u h => h, hdA a3, (N.k "NotBoxed" (by decide)), by show 4 ≤ sizeLine; decide, ?_⟩
    intro p4 np4
    have a4 := a3.newT (o := .lst [.bl (decide (("BadText" : Str) = nm)), .bl (decide (("BadSize" : Str) = nm)), .bl (decide (("TooMany" : Str) = nm)), .bl (decide (("NotBoxed" : Str) = nm))]) np4
    have b4 := b3.newT (o := .lst [.bl (decide (("BadText" : Str) = nm)), .bl (decide (("BadSize" : Str) = nm)), .bl (decide (("TooMany" : Str) = nm)), .bl (decide (("NotBoxed" : Str) = nm))]) np4
    refine ⟨p3, p4, [.bl (decide (("BadLogic" : Str) = nm)), .bl (decide (("BadSheet" : Str) = nm)), .bl (decide (("BadClaim" : Str) = nm)), .bl (decide (("BadModel" : Str) = nm)), .bl (decide (("BadPaper" : Str) = nm)), .bl (decide (("BadTerm" : Str) = nm)), .bl (decide (("BadEdit" : Str) = nm)), .bl (decide (("BadValue" : Str) = nm))], [.bl (decide (("BadText" : Str) = nm)), .bl (decide (("BadSize" : Str) = nm)), .bl (decide (("TooMany" : Str) = nm)), .bl (decide (("NotBoxed" : Str) = nm))], rfl, rfl, ?_, upd_same, by show 12 ≤ sizeLine; decide, ?_⟩
    · rw [upd_ne (ne_of_none (o := .lst [.bl (decide (("BadLogic" : Str) = nm)), .bl (decide (("BadSheet" : Str) = nm)), .bl (decide (("BadClaim" : Str) = nm)), .bl (decide (("BadModel" : Str) = nm)), .bl (decide (("BadPaper" : Str) = nm)), .bl (decide (("BadTerm" : Str) = nm)), .bl (decide (("BadEdit" : Str) = nm)), .bl (decide (("BadValue" : Str) = nm))]) upd_same np4)]; exact upd_same
    intro p5 np5
    have a5 := a4.newT (o := .lst [.bl (decide (("BadLogic" : Str) = nm)), .bl (decide (("BadSheet" : Str) = nm)), .bl (decide (("BadClaim" : Str) = nm)), .bl (decide (("BadModel" : Str) = nm)), .bl (decide (("BadPaper" : Str) = nm)), .bl (decide (("BadTerm" : Str) = nm)), .bl (decide (("BadEdit" : Str) = nm)), .bl (decide (("BadValue" : Str) = nm)), .bl (decide (("BadText" : Str) = nm)), .bl (decide (("BadSize" : Str) = nm)), .bl (decide (("TooMany" : Str) = nm)), .bl (decide (("NotBoxed" : Str) = nm))]) np5
    have b5 := b4.newT (o := .lst [.bl (decide (("BadLogic" : Str) = nm)), .bl (decide (("BadSheet" : Str) = nm)), .bl (decide (("BadClaim" : Str) = nm)), .bl (decide (("BadModel" : Str) = nm)), .bl (decide (("BadPaper" : Str) = nm)), .bl (decide (("BadTerm" : Str) = nm)), .bl (decide (("BadEdit" : Str) = nm)), .bl (decide (("BadValue" : Str) = nm)), .bl (decide (("BadText" : Str) = nm)), .bl (decide (("BadSize" : Str) = nm)), .bl (decide (("TooMany" : Str) = nm)), .bl (decide (("NotBoxed" : Str) = nm))]) np5
    refine ⟨_, rfl, _, rfl, _, _, _, rfl, fun u h => h, hdA a5, (N.k "NotProved" (by decide)), _, rfl, _, _, _, rfl, fun u h => h, hdA a5, (N.k "NotThere" (by decide)), _, rfl, _, _, _, rfl, fun u h => h, hdA a5, (N.k "NothingToUndo" (by decide)), _, rfl, _, _, _, rfl, fun u h => h, hdA a5, (N.k "NothingToRedo" (by decide)), by show 4 ≤ sizeLine; decide, ?_⟩
    intro p6 np6
    have a6 := a5.newT (o := .lst [.bl (decide (("NotProved" : Str) = nm)), .bl (decide (("NotThere" : Str) = nm)), .bl (decide (("NothingToUndo" : Str) = nm)), .bl (decide (("NothingToRedo" : Str) = nm))]) np6
    have b6 := b5.newT (o := .lst [.bl (decide (("NotProved" : Str) = nm)), .bl (decide (("NotThere" : Str) = nm)), .bl (decide (("NothingToUndo" : Str) = nm)), .bl (decide (("NothingToRedo" : Str) = nm))]) np6
    refine ⟨p5, p6, [.bl (decide (("BadLogic" : Str) = nm)), .bl (decide (("BadSheet" : Str) = nm)), .bl (decide (("BadClaim" : Str) = nm)), .bl (decide (("BadModel" : Str) = nm)), .bl (decide (("BadPaper" : Str) = nm)), .bl (decide (("BadTerm" : Str) = nm)), .bl (decide (("BadEdit" : Str) = nm)), .bl (decide (("BadValue" : Str) = nm)), .bl (decide (("BadText" : Str) = nm)), .bl (decide (("BadSize" : Str) = nm)), .bl (decide (("TooMany" : Str) = nm)), .bl (decide (("NotBoxed" : Str) = nm))], [.bl (decide (("NotProved" : Str) = nm)), .bl (decide (("NotThere" : Str) = nm)), .bl (decide (("NothingToUndo" : Str) = nm)), .bl (decide (("NothingToRedo" : Str) = nm))], rfl, rfl, ?_, upd_same, by show 16 ≤ sizeLine; decide, ?_⟩
    · rw [upd_ne (ne_of_none (o := .lst [.bl (decide (("BadLogic" : Str) = nm)), .bl (decide (("BadSheet" : Str) = nm)), .bl (decide (("BadClaim" : Str) = nm)), .bl (decide (("BadModel" : Str) = nm)), .bl (decide (("BadPaper" : Str) = nm)), .bl (decide (("BadTerm" : Str) = nm)), .bl (decide (("BadEdit" : Str) = nm)), .bl (decide (("BadValue" : Str) = nm)), .bl (decide (("BadText" : Str) = nm)), .bl (decide (("BadSize" : Str) = nm)), .bl (decide (("TooMany" : Str) = nm)), .bl (decide (("NotBoxed" : Str) = nm))]) upd_same np6)]; exact upd_same
    intro p7 np7
    have a7 := a6.newT (o := .lst (allBs nm)) np7
    have b7 := b6.newT (o := .lst (allBs nm)) np7
    have h0 := b7 p0 _ (by simp) upd_same
    have hfl : (allBs nm).all flatV = true := rfl
    refine ⟨_, rfl, .inl ⟨rfl, _, SqL.of upd_same⟩, p7, allBs nm, .bl true, rfl, rfl, SqL.of upd_same, rfl, hfl, rfl, _, rfl, iteN (by rw [hc]; rfl) ?_⟩
    refine ⟨_, rfl, _, _, _, rfl, fun u h => h, hdA a7, N.kC, _, rfl, iteN (by decide) ?_⟩
    refine ⟨_, rfl, _, _, _, rfl, fun u h => h, hdA a7, N.kV, _, rfl, iteN (by decide) ?_⟩
    refine ⟨_, rfl, _, rfl, .inl ⟨rfl, _, SqL.of upd_same⟩, p7, allBs nm, .bl true, j, .bl true, rfl, rfl, SqL.of upd_same, rfl, hfl, hjt, rfl, fun m z hm hz => hjf m hm z hz, p0, _, _, _, rfl, rfl, SqL.of h0, atI_nat (j := j) (by rw [List.getElem?_map, hj]; rfl), ?_⟩
    exact q _ a7
/-- it is called in an except suite -/
def tHeld (D : Addr) (nm : Str) (a : Addr) (cls : Value) (d : Option Addr) (i : Nat) : TE := fun σ H Q => tVar i σ H fun x H1 => x = .ref a ∧ cls = .ref D ∧ (∀ dd, d = some dd → ∃ fs, H1 dd = some (.xd fs)) ∧ ∀ H', Adv [] H1 H' → Q (.str nm) H'
structure Nam (K : PySem.W.Frag) (mg : Str → Option Value) (Z : Exs K mg) (nm : Str) : Prop where
  N : NF Z nm
  ex : ∃ j : Nat, allNames[j]? = some nm ∧ ((allBs nm).countP fun z => eqV z (V.bl true)) = 1 ∧ (allBs nm)[j]? = some (V.bl true) ∧ ∀ m : Nat, m < j → ∀ z, (allBs nm)[m]? = some z → eqV z (V.bl true) = false
theorem takes_no {X : Cx} : L2N.Takes X (fun _ _ _ _ => False) := fun u s' ⟨_, _, _, _, _, _, _, _, _, _, _, _, _, _, _, _, w⟩ => w.elim
/-- of several classes: the one that the held error is of -/
def tHeldA (Z : Exs K mg) (a : Addr) (cls : Value) (d : Option Addr) (i : Nat) : TE := fun σ H Q => tVar i σ H fun x H1 => x = .ref a ∧ ∃ nm, Nam K mg Z nm ∧ cls = .ref (Z.cA nm) ∧ (∀ dd, d = some dd → ∃ fs, H1 dd = some (.xd fs)) ∧ ∀ H', Adv [] H1 H' → Q (.str nm) H'
theorem pe_named {X : Cx} (A : All X.K X.mg X.w) (Z : Exs X.K X.mg) (hr : Room 1 X.A) (hg : Gl X "_law_named") {a : Addr} {oe : Obj} {cls : Value} {d : Option Addr} {pn : List (Addr × Obj)} (hz : Zc cls d oe) (hf : ∃ vs, oe.data = .fields vs)
    {y : Str} {i : Nat} {q pos ep : Pos} (he : PE (X.suite a ((a, oe) :: pn)) (.Name y ep) (tVar i)) :
    PE (X.suite a ((a, oe) :: pn)) (.Call (.Name "_law_named" q) [.Name y ep] [] pos) (tHeldA Z a cls d i) := by
  refine ⟨fun pins s σ H Q I h => ?_⟩
  obtain ⟨x, hx, ex, nm, N, ec, hd, q⟩ := h
  obtain ⟨j, h1, h2, h3, h4⟩ := N.ex
  refine (pe_callP (X := X.suite a ((a, oe) :: pn)) (p := (a, oe)) (E := E0) (ok_law_named (P := X.prog) (base := X.base) A Z N.N j h1 h2 h3 h4) ⟨hr.dp, hr.un⟩ List.mem_cons_self hg A.law_named.m A.law_named.F.kp A.law_named.b (pa_cons he pa_nil)).run pins s σ H Q I ?_
  exact ⟨x, hx, d, by rw [ex], by rw [← ec]; exact hz, hf, hd, q⟩
end

set_option Elab.async false
set_option linter.all false
set_option maxRecDepth 100000
set_option maxHeartbeats 400000
open PySem PySem.Spec PyProof.Rows L2 LL
open C8 (pss_cut)
section
variable [KW]
variable {P : Program} {w : World} {K : PySem.W.Frag} {mg : Str → Option Value} {base : Heap}
/-- a node that was written just now is put into the book -/
theorem row_dn {M : List Addr} {H H0 : Hp} {s bk b0 b1 p : Addr} {bx : Bool} {ns0 ns : List Nd} {c : Nat} {Q : VK} (n : Nd) (D : Dw M H s bk b0 b1 bx ns) (hp : H p = none) (hn : n.ok bx ns.length = true) (hl : ns.length ≤ 900000)
    (pre : ns0 <+: ns) (hc : ns.length + 1 ≤ ns0.length + c) (a0 : Adv [s, b0, b1] H0 H) (q : ∀ r ns' H', Dn c M s bk b0 b1 bx ns0 H0 r ns' H' → Q (.int (r : Nat)) H') : RowP [.ref bk, .ref p] (upd H p (.tup (n.keys.map kV))) Q := by
  have a : Adv [] H (upd H p (.tup (n.keys.map kV))) := Adv.new hp
  have D1 := D.same a
  have h1 := row_len ns n
  exact ⟨⟨M, bk, b0, b1, p, ns, n, rfl, D1.hbk, D.kM, D1.B, Tp.of upd_same (not_mem_new D.B.al hp), by omega, fun H' B' a' => q _ _ H' ⟨pre.trans (rowF_pre ns n), rowF_lt ns n, by omega, D1.row hn a' B', (a0.trans (Adv.nil a)).trans (a_b a')⟩⟩⟩
/-! ### _law_leaf -/
structure LeafP (vs : List V) (H : Hp) (Q : VK) : Prop where
  ex : ∃ (M : List Addr) (s bk b0 b1 : Addr) (bx : Bool) (ns : List Nd) (letters : Int), vs = [.ref s, .ref bk, .int letters] ∧ Dw M H s bk b0 b1 bx ns ∧ 0 < letters ∧ letters ≤ 8 ∧ ns.length ≤ 900000 ∧
    ∀ r ns' H', Dn 1 M s bk b0 b1 bx ns H r ns' H' → Q (.int (r : Nat)) H'
def spLeaf : Sp := fun vs H Q _ => LeafP vs H Q
theorem ok_law_leaf (A : All K mg w) : FnOk P w K mg base CX0 2 A.law_leaf.f A.law_leaf.fd ["stream", "book", "letters"] spLeaf := by
  refine A.law_leaf.F.ok sc_law_leaf (fun vs H Q E h => ?_) (fun cdv Ar outer s H vs Q E hr h => ?_)
  · obtain ⟨M, s, bk, b0, b1, bx, ns, letters, rfl, _⟩ := h.ex
    rfl
  · obtain ⟨M, s, bk, b0, b1, bx, ns, letters, rfl, D, l0, l1, hl, q⟩ := h.ex
    refine ⟨_, (pss_one (ps_ret (pe_call (ok_law_row A) (hr.mono (by omega)) rfl A.law_row.m A.law_row.F.kp A.law_row.b .nil pass0 (pa_cons (pv 1) (pa_cons (pe_ifExp (pt_cmpR op_eq (pe_call (ok_law_next A) (hr.mono (by omega)) rfl A.law_next.m A.law_next.F.kp A.law_next.b .nil pass0 (pa_cons (pv 0) (pa_cons pe_int pa_nil))) pe_int (nomark _)) (pe_tup (pa_cons pe_str pa_nil)) (pe_tup (pa_cons pe_str (pa_cons (pe_call (ok_law_next A) (hr.mono (by omega)) rfl A.law_next.m A.law_next.F.kp A.law_next.b .nil pass0 (pa_cons (pv 0) (pa_cons (pv 2) pa_nil))) pa_nil)))) pa_nil))))), ?_⟩
    walk_at "rd"
    refine ⟨s, 7, M, rfl, D.str, by decide, by decide, fun d H1 d0 d1 hs1 a1 => ?_⟩
    have D1 := D.next a1 hs1
    walk_at "rd"
    refine iteB (fun e => ?_) (fun e => ?_)
    · walk_at "rd"
      refine ⟨by show 1 ≤ sizeLine; decide, fun p np => ?_⟩
      walk_at "rd"
      exact row_dn .no D1 np rfl hl (List.prefix_refl _) (by omega) (a_s a1) q
    · walk_at "rd"
      refine ⟨s, letters, M, rfl, hs1, l0, by omega, fun x H2 x0 x1 hs2 a2 => ?_⟩
      have D2 := D1.next a2 hs2
      obtain ⟨j, rfl⟩ : ∃ j : Nat, x = (j : Int) := ⟨x.toNat, by omega⟩
      walk_at "rd"
      refine ⟨by show 2 ≤ sizeLine; decide, fun p np => ?_⟩
      walk_at "rd"
      exact row_dn (.letter j) D2 np (by simp only [Nd.ok, decide_eq_true_eq]; omega) hl (List.prefix_refl _) (by omega) ((a_s a1).trans (a_s a2)) q
/-! ### _law_tree -/
structure TreeP (c : Int → Nat) (m : Nat) (vs : List V) (H : Hp) (Q : VK) : Prop where
  ex : ∃ (M : List Addr) (s bk b0 b1 : Addr) (bx : Bool) (ns : List Nd) (letters many : Int), vs = [.ref s, .ref bk, .int letters, .int many, .bl bx] ∧ Dw M H s bk b0 b1 bx ns ∧ 0 < letters ∧ letters ≤ 8 ∧ 0 ≤ many ∧ many ≤ m ∧ m ≤ 1000 ∧ ns.length + 4 * many.toNat ≤ 800000 ∧
    ∀ r ns' H', Dn (c many) M s bk b0 b1 bx ns H r ns' H' → Q (.int (r : Nat)) H'
def spTree (m : Nat) : Sp := fun vs H Q _ => TreeP (fun many => 2 * many.toNat + 1) m vs H Q
theorem op_pick {x : V} (h : x ∈ [V.str "and", .str "or", .str "if", .str "if"]) : ∃ o : Op3, x = .str o.str := by
  simp at h
  rcases h with h | h | h
  · exact ⟨.and, h⟩
  · exact ⟨.or, h⟩
  · exact ⟨.imp, h⟩
theorem tree_0 (A : All K mg w) : FnOk P w K mg base CX0 3 A.law_tree.f A.law_tree.fd ["stream", "book", "letters", "many", "boxed"] (spTree 0) := by
  refine A.law_tree.F.ok sc_law_tree (fun vs H Q E h => ?_) (fun cdv Ar outer s H vs Q E hr h => ?_)
  · obtain ⟨M, s, bk, b0, b1, bx, ns, letters, many, rfl, _⟩ := h.ex
    rfl
  · obtain ⟨M, s, bk, b0, b1, bx, ns, letters, many, rfl, D, l0, l1, m0, mm, m1, hl, q⟩ := h.ex
    refine ⟨_, (pss_cons (ps_if (pt_cmpR op_le (pv 3) pe_int (nomark _))
    (pss_one (ps_ret (pe_call (ok_law_leaf A) (hr.mono (by omega)) rfl A.law_leaf.m A.law_leaf.F.kp A.law_leaf.b .nil pass0 (pa_cons (pv 0) (pa_cons (pv 1) (pa_cons (pv 2) pa_nil))))))
    pss_nil)
  (pss_cut (ps_if (PW.pt (pw_and (pt_val (pv 4)) (pw_and1 (pt_cmpR op_lt (pe_call (ok_law_next A) (hr.mono (by omega)) rfl A.law_next.m A.law_next.F.kp A.law_next.b .nil pass0 (pa_cons (pv 0) (pa_cons pe_int pa_nil))) pe_int (nomark _)))))
    (pss_one (ps_ret (pe_call (ok_law_row A) (hr.mono (by omega)) rfl A.law_row.m A.law_row.F.kp A.law_row.b .nil pass0 (pa_cons (pv 1) (pa_cons (pe_tup (pa_cons pe_str (pa_cons pe_never pa_nil))) pa_nil)))))
    pss_nil)
  (pss_cons (ps_set (i := 5) sc_law_tree.nd rfl (Or.inl rfl) (pe_call (ok_law_next A) (hr.mono (by omega)) rfl A.law_next.m A.law_next.F.kp A.law_next.b .nil pass0 (pa_cons (pv 0) (pa_cons (pv 3) pa_nil))))
  (pss_cons (ps_set (i := 6) sc_law_tree.nd rfl (Or.inl rfl) pe_never)
  (pss_cons (ps_set (i := 7) sc_law_tree.nd rfl (Or.inl rfl) pe_never)
  (pss_one (ps_ret (pe_call (ok_law_row A) (hr.mono (by omega)) rfl A.law_row.m A.law_row.F.kp A.law_row.b .nil pass0 (pa_cons (pv 1) (pa_cons (pe_tup (pa_cons (pe_call (ok_law_pick A) (hr.mono (by omega)) rfl A.law_pick.m A.law_pick.F.kp A.law_pick.b .nil pass0 (pa_cons (pv 0) (pa_cons (pe_tup (pa_cons pe_str (pa_cons pe_str (pa_cons pe_str (pa_cons pe_str pa_nil))))) pa_nil))) (pa_cons (pv 6) (pa_cons (pv 7) pa_nil)))) pa_nil)))))))))), ?_⟩
    walk_at "rd"
    refine iteB (fun e => ?_) (fun e => ?_)
    · walk_at "rd"
      exact ⟨⟨M, s, bk, b0, b1, bx, ns, letters, rfl, D, l0, l1, by omega, fun r ns' H' x => q r ns' H' ⟨x.pre, x.lt, by have := x.le; omega, x.D, x.a⟩⟩⟩
    · have hm0 : ¬ many ≤ 0 := of_decide_eq_false e
      omega
theorem tree_s (A : All K mg w) {m : Nat} (G : FnOk P w K mg base CX0 (m + 3) A.law_tree.f A.law_tree.fd ["stream", "book", "letters", "many", "boxed"] (spTree m)) : FnOk P w K mg base CX0 (m + 4) A.law_tree.f A.law_tree.fd ["stream", "book", "letters", "many", "boxed"] (spTree (m + 1)) := by
  refine A.law_tree.F.ok sc_law_tree (fun vs H Q E h => ?_) (fun cdv Ar outer s H vs Q E hr h => ?_)
  · obtain ⟨M, s, bk, b0, b1, bx, ns, letters, many, rfl, _⟩ := h.ex
    rfl
  · obtain ⟨M, s, bk, b0, b1, bx, ns, letters, many, rfl, D, l0, l1, m0, mm, m1, hl, q⟩ := h.ex
    refine ⟨_, (pss_cons (ps_if (pt_cmpR op_le (pv 3) pe_int (nomark _))
    (pss_one (ps_ret (pe_call (ok_law_leaf A) (hr.mono (by omega)) rfl A.law_leaf.m A.law_leaf.F.kp A.law_leaf.b .nil pass0 (pa_cons (pv 0) (pa_cons (pv 1) (pa_cons (pv 2) pa_nil))))))
    pss_nil)
  (pss_cut (ps_if (PW.pt (pw_and (pt_val (pv 4)) (pw_and1 (pt_cmpR op_lt (pe_call (ok_law_next A) (hr.mono (by omega)) rfl A.law_next.m A.law_next.F.kp A.law_next.b .nil pass0 (pa_cons (pv 0) (pa_cons pe_int pa_nil))) pe_int (nomark _)))))
    (pss_one (ps_ret (pe_call (ok_law_row A) (hr.mono (by omega)) rfl A.law_row.m A.law_row.F.kp A.law_row.b .nil pass0 (pa_cons (pv 1) (pa_cons (pe_tup (pa_cons pe_str (pa_cons (pe_call G (hr.mono (by omega)) rfl A.law_tree.m A.law_tree.F.kp A.law_tree.b .nil pass0 (pa_cons (pv 0) (pa_cons (pv 1) (pa_cons (pv 2) (pa_cons (pe_op op_sub (pv 3) pe_int) (pa_cons (pv 4) pa_nil)))))) pa_nil))) pa_nil)))))
    pss_nil)
  (pss_cons (ps_set (i := 5) sc_law_tree.nd rfl (Or.inl rfl) (pe_call (ok_law_next A) (hr.mono (by omega)) rfl A.law_next.m A.law_next.F.kp A.law_next.b .nil pass0 (pa_cons (pv 0) (pa_cons (pv 3) pa_nil))))
  (pss_cons (ps_set (i := 6) sc_law_tree.nd rfl (Or.inl rfl) (pe_call G (hr.mono (by omega)) rfl A.law_tree.m A.law_tree.F.kp A.law_tree.b .nil pass0 (pa_cons (pv 0) (pa_cons (pv 1) (pa_cons (pv 2) (pa_cons (pv 5) (pa_cons (pv 4) pa_nil)))))))
  (pss_cons (ps_set (i := 7) sc_law_tree.nd rfl (Or.inl rfl) (pe_call G (hr.mono (by omega)) rfl A.law_tree.m A.law_tree.F.kp A.law_tree.b .nil pass0 (pa_cons (pv 0) (pa_cons (pv 1) (pa_cons (pv 2) (pa_cons (pe_op op_sub (pe_op op_sub (pv 3) pe_int) (pv 5)) (pa_cons (pv 4) pa_nil)))))))
  (pss_one (ps_ret (pe_call (ok_law_row A) (hr.mono (by omega)) rfl A.law_row.m A.law_row.F.kp A.law_row.b .nil pass0 (pa_cons (pv 1) (pa_cons (pe_tup (pa_cons (pe_call (ok_law_pick A) (hr.mono (by omega)) rfl A.law_pick.m A.law_pick.F.kp A.law_pick.b .nil pass0 (pa_cons (pv 0) (pa_cons (pe_tup (pa_cons pe_str (pa_cons pe_str (pa_cons pe_str (pa_cons pe_str pa_nil))))) pa_nil))) (pa_cons (pv 6) (pa_cons (pv 7) pa_nil)))) pa_nil)))))))))), ?_⟩
    walk_at "rd"
    refine iteB (fun e => ?_) (fun e => ?_)
    · walk_at "rd"
      exact ⟨⟨M, s, bk, b0, b1, bx, ns, letters, rfl, D, l0, l1, by omega, fun r ns' H' x => q r ns' H' ⟨x.pre, x.lt, by have := x.le; omega, x.D, x.a⟩⟩⟩
    have hm0 : ¬ many ≤ 0 := of_decide_eq_false e
    walk_at "rd"
    refine ⟨fun σ' H' => σ' = [some (.ref s), some (.ref bk), some (.int letters), some (.int many), some (.bl bx), none, none, none] ∧ Dw M H' s bk b0 b1 bx ns ∧ Adv [s, b0, b1] H H', ?_, ?_⟩
    · cases bx with
      | false =>
        walk_at "rd"
        exact ⟨rfl, D, Adv.refl _ _⟩
      | true =>
        walk_at "rd"
        refine ⟨s, 5, M, rfl, D.str, by decide, by decide, fun d H1 d0 d1 hs1 a1 => ?_⟩
        have D1 := D.next a1 hs1
        walk_at "rd"
        refine iteB (fun e => ?_) (fun e => ?_)
        · walk_at "rd"
          refine ⟨⟨M, s, bk, b0, b1, true, ns, letters, many - 1, rfl, D1, l0, l1, by omega, by omega, by omega, by omega, fun j ns2 H2 x => ?_⟩⟩
          have xl := x.le
          have xj := x.lt
          walk_at "rd"
          refine ⟨by show 2 ≤ sizeLine; decide, fun p np => ?_⟩
          walk_at "rd"
          exact row_dn (.box j) x.D np (by simp only [Nd.ok, Bool.true_and, decide_eq_true_eq]; exact x.lt) (by omega) x.pre (by omega) ((a_s a1).trans x.a) q
        · walk_at "rd"
          exact ⟨rfl, D1, a_s a1⟩
    · rintro σ' H1 ⟨rfl, D1, a1⟩
      walk_at "rd"
      refine ⟨s, many, M, rfl, D1.str, by omega, by omega, fun f H2 f0 f1 hs2 a2 => ?_⟩
      have D2 := D1.next a2 hs2
      walk_at "rd"
      refine ⟨⟨M, s, bk, b0, b1, bx, ns, letters, f, rfl, D2, l0, l1, f0, by omega, by omega, by omega, fun j ns3 H3 x3 => ?_⟩⟩
      have xl3 := x3.le
      have xj3 := x3.lt
      have xg3 := x3.ge
      walk_at "rd"
      refine ⟨⟨M, s, bk, b0, b1, bx, ns3, letters, many - 1 - f, rfl, x3.D, l0, l1, by omega, by omega, by omega, by omega, fun k ns4 H4 x4 => ?_⟩⟩
      have xl4 := x4.le
      have xj4 := x4.lt
      have xg4 := x4.ge
      walk_at "rd"
      refine ⟨by show 4 ≤ sizeLine; decide, fun p np => ?_⟩
      have D5 := x4.D.same (Adv.new (o := .tup [.str "and", .str "or", .str "if", .str "if"]) np)
      refine ⟨s, p, [.str "and", .str "or", .str "if", .str "if"], M, rfl, D5.str, .inr upd_same, (x4.D.free np).2.1, by simp, by simp, fun x H6 hx hs6 a6 => ?_⟩
      have D6 := D5.next a6 hs6
      obtain ⟨o, rfl⟩ := op_pick hx
      walk_at "rd"
      refine ⟨by show 3 ≤ sizeLine; decide, fun t nt => ?_⟩
      walk_at "rd"
      exact row_dn (.bin o j k) D6 nt (by simp only [Nd.ok, Bool.and_eq_true, decide_eq_true_eq]; omega) (by omega) (x3.pre.trans x4.pre) (by omega) (((((a1.trans (a_s a2)).trans x3.a).trans x4.a).newT np).trans (a_s a6)) q
theorem ok_law_tree (A : All K mg w) : ∀ m : Nat, FnOk P w K mg base CX0 (m + 3) A.law_tree.f A.law_tree.fd ["stream", "book", "letters", "many", "boxed"] (spTree m)
  | 0 => tree_0 A
  | m + 1 => tree_s A (ok_law_tree A m)
end

set_option Elab.async false
set_option linter.all false
set_option maxRecDepth 100000
set_option maxHeartbeats 400000
open PySem PySem.Spec PyProof.Rows L2 LL
open C8 (pss_cut)
section
variable [KW]
variable {P : Program} {w : World} {K : PySem.W.Frag} {mg : Str → Option Value} {base : Heap}
/-! ### _law_heap, _law_formula -/
def spForm (m : Nat) : Sp := fun vs H Q _ => TreeP (fun many => 2 * many.toNat + 3) m vs H Q
/-- the words that are drawn -/
def wordOk (bx : Bool) (wd : Str) : Prop := (∃ o : Op3, wd = o.str) ∨ (wd = "box" ∧ bx = true)
theorem nV_snoc (rs : List Nat) (r : Nat) : nV rs ++ [V.int (r : Nat)] = nV (rs ++ [r]) := by unfold nV; rw [List.map_append]; rfl
theorem nV_len (rs : List Nat) : (nV rs).length = rs.length := by unfold nV; rw [List.length_map]
theorem nV_at {rs : List Nat} {i : Nat} (h : i < rs.length) : (nV rs)[i]? = some (.int (rs[i] : Nat)) := by unfold nV; rw [List.getElem?_map, List.getElem?_eq_getElem h]; rfl
theorem ok_law_heap (A : All K mg w) {m : Nat} : FnOk P w K mg base CX0 3 A.law_heap.f A.law_heap.fd ["stream", "book", "letters", "many", "boxed"] (spForm m) := by
  refine A.law_heap.F.ok sc_law_heap (fun vs H Q E h => ?_) (fun cdv Ar outer s H vs Q E hr h => ?_)
  · obtain ⟨M, s, bk, b0, b1, bx, ns, letters, many, rfl, _⟩ := h.ex
    rfl
  · obtain ⟨M, s, bk, b0, b1, bx, ns, letters, many, rfl, D, l0, l1, m0, mm, m1, hl, q⟩ := h.ex
    refine ⟨_, (pss_cons (ps_setLc (i := 6) (own := [("k", 5)]) (g := (gName 5)) rfl sc_law_heap.nd rfl rfl (sw_true rfl rfl rfl (by decide +kernel)) (pi_range1 rfl A.T.range (pa_cons pe_int pa_nil)) (blkOk_by (own := [("k", 5)]) (N := ["stream", "book", "letters", "many", "boxed", "k", "rows", "j", "other", "word"]) (sc := defScope s_law_heap) (by decide +kernel)) (fun _ _ _ _ _ => pg_name (i := 5) sc_law_heap.nd rfl (Or.inl rfl)) (fun _ _ _ _ _ => pts_nil) (fun _ _ _ _ _ => (pe_call (ok_law_leaf A) (hr.mono (by omega)) rfl A.law_leaf.m A.law_leaf.F.kp A.law_leaf.b .nil pass0 (pa_cons (pv 0) (pa_cons (pv 1) (pa_cons (pv 2) pa_nil))))))
  (pss_cons (ps_for PassesOwn.never rfl (pi_range1 rfl A.T.range (pa_cons (pv 3) pa_nil)) (pg_name (i := 5) sc_law_heap.nd rfl (Or.inl rfl))
    (pss_cons (ps_set (i := 7) sc_law_heap.nd rfl (Or.inl rfl) (pe_ix ix_list (pv 6) (pe_op op_sub (pe_op op_sub (pe_callB call_len_seq (by rfl) A.T.len PySem.boot_len (pa_cons (pv 6) pa_nil)) pe_int) (pe_call (ok_law_next A) (hr.mono (by omega)) rfl A.law_next.m A.law_next.F.kp A.law_next.b .nil pass0 (pa_cons (pv 0) (pa_cons pe_int pa_nil)))) (fun _ _ => rfl)))
  (pss_cons (ps_set (i := 8) sc_law_heap.nd rfl (Or.inl rfl) (pe_call (ok_law_pick A) (hr.mono (by omega)) rfl A.law_pick.m A.law_pick.F.kp A.law_pick.b .nil pass0 (pa_cons (pv 0) (pa_cons (pv 6) pa_nil))))
  (pss_cut (ps_set (i := 9) sc_law_heap.nd rfl (Or.inl rfl) (pe_call (ok_law_pick A) (hr.mono (by omega)) rfl A.law_pick.m A.law_pick.F.kp A.law_pick.b .nil pass0 (pa_cons (pv 0) (pa_cons (pe_ifExp (pt_val (pv 4)) (pe_tup (pa_cons pe_str (pa_cons pe_str (pa_cons pe_str (pa_cons pe_str (pa_cons pe_str (pa_cons pe_str pa_nil))))))) (pe_tup (pa_cons pe_str (pa_cons pe_str (pa_cons pe_str (pa_cons pe_str pa_nil)))))) pa_nil))))
  (pss_one (ps_if (pt_cmpR op_eq (pv 9) pe_str (nomark _))
    (pss_one (ps_expr (pe_bm PySem.F.plainAttrs_list PySem.F.slot_list_append PySem.F.type_list_append mt_append (pv 6) (pa_cons (pe_call (ok_law_row A) (hr.mono (by omega)) rfl A.law_row.m A.law_row.F.kp A.law_row.b .nil pass0 (pa_cons (pv 1) (pa_cons (pe_tup (pa_cons pe_str (pa_cons (pv 7) pa_nil))) pa_nil))) pa_nil))))
    (pss_one (ps_expr (pe_bm PySem.F.plainAttrs_list PySem.F.slot_list_append PySem.F.type_list_append mt_append (pv 6) (pa_cons (pe_call (ok_law_row A) (hr.mono (by omega)) rfl A.law_row.m A.law_row.F.kp A.law_row.b .nil pass0 (pa_cons (pv 1) (pa_cons (pe_ifExp (pt_cmpR op_eq (pe_call (ok_law_next A) (hr.mono (by omega)) rfl A.law_next.m A.law_next.F.kp A.law_next.b .nil pass0 (pa_cons (pv 0) (pa_cons pe_int pa_nil))) pe_int (nomark _)) (pe_tup (pa_cons (pv 9) (pa_cons (pv 8) (pa_cons (pv 7) pa_nil)))) (pe_tup (pa_cons (pv 9) (pa_cons (pv 7) (pa_cons (pv 8) pa_nil))))) pa_nil))) pa_nil))))))))))
  (pss_one (ps_ret (pe_ix ix_list (pv 6) (pe_op op_sub (pe_callB call_len_seq (by rfl) A.T.len PySem.boot_len (pa_cons (pv 6) pa_nil)) pe_int) (fun _ _ => rfl)))))), ?_⟩
    -- rows = [leaf, leaf, leaf]
    refine ⟨3, rfl, by decide, by decide, fun d nd => ?_⟩
    obtain ⟨dM, ds, dk, d0, d1⟩ := D.free nd
    have dn : d ∉ [s, b0, b1] := by simp [ds, d0, d1]
    refine lc_range (lo := 0) (n := (3 : Int).toNat) (fun i H' => ∃ (ns' : List Nd) (rs : List Nat), ns <+: ns' ∧ ns'.length ≤ ns.length + i ∧ Dw (d :: M) H' s bk b0 b1 bx ns' ∧ Adv [s, b0, b1] H H' ∧ H' d = some (.lst (nV rs)) ∧ rs.length = i ∧ ∀ r ∈ rs, r < ns'.length)
      ⟨ns, [], List.prefix_refl _, Nat.le_refl _, D.fresh nd, Adv.new nd, upd_same, rfl, by simp⟩ ?_ ?_
    · rintro i H' hi ⟨ns', rs, h1, h2, D1, a1, hd, hrl, hrs⟩
      have hi3 : i < 3 := hi
      have hg := h1.length_le
      refine ⟨rfl, yes_if ?_⟩
      refine iteY rfl ?_
      walk_at "rd"
      refine ⟨⟨d :: M, s, bk, b0, b1, bx, ns', letters, rfl, D1, l0, l1, by omega, fun r ns2 H2 x => ?_⟩⟩
      have hd2 := x.a _ _ dn hd
      have xl := x.le
      have xg := x.ge
      have xt := x.lt
      refine ⟨_, hd2, by rw [nV_len, sizeLine_eq]; omega, ns2, rs ++ [r], h1.trans x.pre, by omega, x.D.put (by simp) ds d0 d1, (a1.trans x.a).mut nd, by rw [upd_same, nV_snoc], by rw [List.length_append, List.length_singleton, hrl], ?_⟩
      intro y hy
      rcases List.mem_append.mp hy with hy | hy
      · have := hrs y hy; omega
      · rw [List.mem_singleton.mp hy]; exact xt
    · rintro H1 ⟨ns1, rs1, h1, h2, D1, a1, hd1, hrl1, hrs1⟩
      have h23 : (3 : Int).toNat = 3 := rfl
      -- for k in range(many)
      refine ⟨_, rfl, many, rfl, by omega, by omega, ?_⟩
      refine for_range (lo := 0) (n := many.toNat) (fun i σ' H' => ∃ (ns' : List Nd) (rs : List Nat) (x5 x7 x8 x9 : Option V), σ' = [some (.ref s), some (.ref bk), some (.int letters), some (.int many), some (.bl bx), x5, some (.ref d), x7, x8, x9] ∧ ns <+: ns' ∧ ns'.length ≤ ns.length + 3 + i ∧ Dw (d :: M) H' s bk b0 b1 bx ns' ∧ Adv [s, b0, b1] H H' ∧ H' d = some (.lst (nV rs)) ∧ rs.length = 3 + i ∧ ∀ r ∈ rs, r < ns'.length)
        ⟨ns1, rs1, none, none, none, none, rfl, h1, by omega, D1, a1, hd1, by omega, hrs1⟩ ?_ ?_
      · rintro i σ' H' hi ⟨ns', rs, x5, x7, x8, x9, rfl, h1, h2, D1, a1, hd, hrl, hrs⟩
        have hg := h1.length_le
        walk_at "rd"
        refine ⟨s, 3, d :: M, rfl, D1.str, by decide, by decide, fun e H2 e0 e1 hs2 a2 => ?_⟩
        have D2 := D1.next a2 hs2
        have hd2 := a2 _ _ (by simpa using ds) hd
        obtain ⟨t, ht⟩ : ∃ t : Nat, ((nV rs).length : Int) - 1 - e = (t : Int) := ⟨(((nV rs).length : Int) - 1 - e).toNat, by rw [nV_len]; omega⟩
        have htl : t < rs.length := by rw [nV_len] at ht; omega
        have hrt := hrs _ (List.getElem_mem htl)
        have hg2 := nV_at htl
        refine rd_i0 ?_
        rw [ht]
        walk_at "rd"
        refine ⟨s, d, nV rs, d :: M, rfl, hs2, .inl hd2, ds, by intro z; have := congrArg List.length z; rw [nV_len, List.length_nil] at this; omega, by rw [nV_len]; omega, fun ov H3 hov hs3 a3 => ?_⟩
        obtain ⟨o, ho, rfl⟩ := List.mem_map.mp hov
        have hol := hrs o ho
        have D3 := D2.next a3 hs3
        have hd3 := a3 _ _ (by simpa using ds) hd2
        have a13 : Adv [s, b0, b1] H H3 := (a1.trans (a_s a2)).trans (a_s a3)
        walk_at "rd"
        refine ⟨fun σ' H' => ∃ wd, σ' = [some (.ref s), some (.ref bk), some (.int letters), some (.int many), some (.bl bx), some (.int (0 + (i : Nat))), some (.ref d), some (.int (rs[t] : Nat)), some (.int (o : Nat)), some (.str wd)] ∧ wordOk bx wd ∧ Dw (d :: M) H' s bk b0 b1 bx ns' ∧ Adv [s, b0, b1] H H' ∧ H' d = some (.lst (nV rs)), ?_, ?_⟩
        · have word : ∀ (ws : List Str) (p : Addr) (Q' : VK), H3 p = none → ws ≠ [] → ws.length ≤ 10 → (∀ x ∈ ws, wordOk bx x) → (∀ wd H', wordOk bx wd → Dw (d :: M) H' s bk b0 b1 bx ns' → Adv [s, b0, b1] H H' → H' d = some (.lst (nV rs)) → Q' (.str wd) H') → spPick [.ref s, .ref p] (upd H3 p (.tup (ws.map V.str))) Q' E0 := by
            intro ws p Q' np hne hwl hok k
            have D4 := D3.same (Adv.new (o := .tup (ws.map V.str)) np)
            refine ⟨s, p, ws.map V.str, d :: M, rfl, D4.str, .inr upd_same, (D3.free np).2.1, by simpa using hne, by rw [List.length_map]; omega, fun x H5 hx hs5 a5 => ?_⟩
            obtain ⟨wd, hwd, rfl⟩ := List.mem_map.mp hx
            have ndp : d ≠ p := ne_of_none hd3 np
            exact k wd H5 (hok wd hwd) (D4.next a5 hs5) ((a13.newT np).trans (a_s a5)) (a5 _ _ (by simpa using ds) (by rw [upd_ne ndp]; exact hd3))
          cases bx with
          | true =>
            walk_at "rd"
            refine ⟨by show 6 ≤ sizeLine; decide, fun p np => ?_⟩
            walk_at "rd"
            exact word ["and", "or", "if", "if", "box", "box"] p _ np (by simp) (by simp) (by simp; exact ⟨.inl ⟨.and, rfl⟩, .inl ⟨.or, rfl⟩, .inl ⟨.imp, rfl⟩, .inr ⟨rfl, rfl⟩⟩) fun wd H' h1 h2 h3 h4 => ⟨wd, rfl, h1, h2, h3, h4⟩
          | false =>
            walk_at "rd"
            refine ⟨by show 4 ≤ sizeLine; decide, fun p np => ?_⟩
            walk_at "rd"
            exact word ["and", "or", "if", "if"] p _ np (by simp) (by simp) (by simp; exact ⟨.inl ⟨.and, rfl⟩, .inl ⟨.or, rfl⟩, .inl ⟨.imp, rfl⟩⟩) fun wd H' h1 h2 h3 h4 => ⟨wd, rfl, h1, h2, h3, h4⟩
        · rintro σ' H4 ⟨wd, rfl, hwd, D4, a4, hd4⟩
          have fin : ∀ {H5 : Hp} {n : Nd} {p : Addr} {σ' : L2.St} {Q' : L2.St → Hp → Prop}, Dw (d :: M) H5 s bk b0 b1 bx ns' → Adv [s, b0, b1] H H5 → H5 d = some (.lst (nV rs)) → H5 p = none → n.ok bx ns'.length = true →
              (∀ (ns2 : List Nd) (r : Nat) H6, ns <+: ns2 → ns2.length ≤ ns.length + 3 + (i + 1) → Dw (d :: M) (upd H6 d (.lst (nV (rs ++ [r])))) s bk b0 b1 bx ns2 → Adv [s, b0, b1] H (upd H6 d (.lst (nV (rs ++ [r])))) → (∀ y ∈ rs ++ [r], y < ns2.length) → Q' σ' (upd H6 d (.lst (nV (rs ++ [r]))))) →
              RowP [.ref bk, .ref p] (upd H5 p (.tup (n.keys.map kV))) fun x H1 => rAppend (.ref d) [x] H1 fun _ H2 => Q' σ' H2 := by
            intro H5 n p σ' Q' D5 a5 hd5 np hn k
            refine row_dn (c := 1) n D5 np hn (by omega) (List.prefix_refl _) (by omega) (Adv.refl _ _) fun r ns2 H6 x => ?_
            have hd6 := x.a _ _ dn hd5
            have xl := x.le
            have xg := x.ge
            have xt := x.lt
            refine rd_app hd6 (by rw [nV_len, sizeLine_eq]; omega) ?_
            rw [nV_snoc]
            exact k ns2 r H6 (h1.trans x.pre) (by omega) (x.D.put (by simp) ds d0 d1) ((a5.trans x.a).mut nd) fun y hy => by
              rcases List.mem_append.mp hy with hy | hy
              · have := hrs y hy; omega
              · rw [List.mem_singleton.mp hy]; exact xt
          rcases hwd with ⟨op, rfl⟩ | ⟨rfl, hbx⟩
          · walk_at "rd"
            refine iteN (by cases op <;> decide) ?_
            walk_at "rd"
            refine ⟨s, 2, d :: M, rfl, D4.str, by decide, by decide, fun e2 H5 g0 g1 hs5 a5 => ?_⟩
            have D5 := D4.next a5 hs5
            have hd5 := a5 _ _ (by simpa using ds) hd4
            walk_at "rd"
            refine iteB (fun _ => ?_) (fun _ => ?_)
            · walk_at "rd"
              refine ⟨by show 3 ≤ sizeLine; decide, fun p np => ?_⟩
              walk_at "rd"
              exact fin (n := .bin op o rs[t]) D5 (a4.trans (a_s a5)) hd5 np (by simp only [Nd.ok, Bool.and_eq_true, decide_eq_true_eq]; omega) fun ns2 r H6 k1 k2 k3 k4 k5 => ⟨ns2, rs ++ [r], _, _, _, _, rfl, k1, k2, k3, k4, upd_same, by rw [List.length_append, List.length_singleton]; omega, k5⟩
            · walk_at "rd"
              refine ⟨by show 3 ≤ sizeLine; decide, fun p np => ?_⟩
              walk_at "rd"
              exact fin (n := .bin op rs[t] o) D5 (a4.trans (a_s a5)) hd5 np (by simp only [Nd.ok, Bool.and_eq_true, decide_eq_true_eq]; omega) fun ns2 r H6 k1 k2 k3 k4 k5 => ⟨ns2, rs ++ [r], _, _, _, _, rfl, k1, k2, k3, k4, upd_same, by rw [List.length_append, List.length_singleton]; omega, k5⟩
          · walk_at "rd"
            refine ⟨by show 2 ≤ sizeLine; decide, fun p np => ?_⟩
            walk_at "rd"
            exact fin (n := .box rs[t]) D4 a4 hd4 np (by simp only [Nd.ok, Bool.and_eq_true, decide_eq_true_eq]; exact ⟨hbx, hrt⟩) fun ns2 r H6 k1 k2 k3 k4 k5 => ⟨ns2, rs ++ [r], _, _, _, _, rfl, k1, k2, k3, k4, upd_same, by rw [List.length_append, List.length_singleton]; omega, k5⟩
      · rintro σ' H' ⟨ns', rs, x5, x7, x8, x9, rfl, h1, h2, D1, a1, hd, hrl, hrs⟩
        obtain ⟨e, he⟩ : ∃ e : Nat, ((nV rs).length : Int) - 1 = (e : Int) := ⟨(nV rs).length - 1, by rw [nV_len]; omega⟩
        have hel : e < rs.length := by rw [nV_len] at he; omega
        have hg := nV_at hel
        walk_at "rd"
        rw [he]
        walk_at "rd"
        exact q rs[e] ns' H' ⟨h1, hrs _ (List.getElem_mem hel), by omega, D1.less (by simp +contextual) D.ms D.B.m0 D.B.m1, a1⟩
theorem ok_law_formula (A : All K mg w) (m : Nat) : FnOk P w K mg base CX0 (m + 4) A.law_formula.f A.law_formula.fd ["stream", "book", "letters", "many", "boxed"] (spForm m) := by
  refine A.law_formula.F.ok sc_law_formula (fun vs H Q E h => ?_) (fun cdv Ar outer s H vs Q E hr h => ?_)
  · obtain ⟨M, s, bk, b0, b1, bx, ns, letters, many, rfl, _⟩ := h.ex
    rfl
  · obtain ⟨M, s, bk, b0, b1, bx, ns, letters, many, rfl, D, l0, l1, m0, mm, m1, hl, q⟩ := h.ex
    refine ⟨_, (pss_cons (ps_if (pt_cmpR op_eq (pe_call (ok_law_next A) (hr.mono (by omega)) rfl A.law_next.m A.law_next.F.kp A.law_next.b .nil pass0 (pa_cons (pv 0) (pa_cons pe_int pa_nil))) pe_int (nomark _))
    (pss_one (ps_ret (pe_call (ok_law_tree A m) (hr.mono (by omega)) rfl A.law_tree.m A.law_tree.F.kp A.law_tree.b .nil pass0 (pa_cons (pv 0) (pa_cons (pv 1) (pa_cons (pv 2) (pa_cons (pv 3) (pa_cons (pv 4) pa_nil))))))))
    pss_nil)
  (pss_one (ps_ret (pe_call (ok_law_heap A (m := m)) (hr.mono (by omega)) rfl A.law_heap.m A.law_heap.F.kp A.law_heap.b .nil pass0 (pa_cons (pv 0) (pa_cons (pv 1) (pa_cons (pv 2) (pa_cons (pv 3) (pa_cons (pv 4) pa_nil))))))))), ?_⟩
    walk_at "rd"
    refine ⟨s, 2, M, rfl, D.str, by decide, by decide, fun d H1 d0 d1 hs1 a1 => ?_⟩
    have D1 := D.next a1 hs1
    walk_at "rd"
    refine iteB (fun e => ?_) (fun e => ?_)
    · walk_at "rd"
      exact ⟨⟨M, s, bk, b0, b1, bx, ns, letters, many, rfl, D1, l0, l1, m0, mm, m1, hl, fun r ns' H' x => q r ns' H' ⟨x.pre, x.lt, by have := x.le; omega, x.D, (a_s a1).trans x.a⟩⟩⟩
    · walk_at "rd"
      exact ⟨⟨M, s, bk, b0, b1, bx, ns, letters, many, rfl, D1, l0, l1, m0, mm, m1, hl, fun r ns' H' x => q r ns' H' ⟨x.pre, x.lt, x.le, x.D, (a_s a1).trans x.a⟩⟩⟩
end

set_option Elab.async false
set_option linter.all false
set_option maxRecDepth 100000
set_option maxHeartbeats 4000000
open PySem PySem.Spec PyProof.Rows L2 LL
open C8 (pss_cut)
section
variable [KW]
variable {P : Program} {w : World} {K : PySem.W.Frag} {mg : Str → Option Value} {base : Heap}
/-! ### is_tuple_of -/
def tupN (n : Int) : PyData → Bool
  | .tuple ds => decide ((ds.length : Int) = n)
  | _ => false
theorem not_tup {d : PyData} (h : ¬ ∃ ds, d = .tuple ds) : kitD d "tuple" = false := by
  cases d with
  | tuple ds => exact absurd ⟨ds, rfl⟩ h
  | _ => simp [kitD, tyN]
def spIsTupleOf : Sp := fun vs H Q _ => ∃ (v : V) (d : PyData) (n : Int), vs = [v, .int n] ∧ Is [] H d v ∧ Q (.bl (tupN n d)) H
theorem ok_is_tuple_of (A : All K mg w) : FnOk P w K mg base CX0 1 A.is_tuple_of.f A.is_tuple_of.fd ["value", "many"] spIsTupleOf := by
  refine A.is_tuple_of.F.ok sc_is_tuple_of (fun vs H Q E h => ?_) (fun cdv Ar outer s H vs Q E hr h => ?_)
  · obtain ⟨v, d, n, rfl, _⟩ := h
    rfl
  · obtain ⟨v, d, n, rfl, hv, q⟩ := h
    refine ⟨_, (pss_one (ps_ret (pe_and (pe_callB call_isi (by rfl) A.T.isinstance (by decide +kernel) (pa_cons (pv 0) (pa_cons (pe_bltn (v := .ty "tuple") (by rfl) A.T.tuple (by decide +kernel) rfl) pa_nil))) (pe_one (pe_cmpR op_eq (pe_callB call_len_seq (by rfl) A.T.len PySem.boot_len (pa_cons (pv 0) pa_nil)) (pv 1) (nomark _)))))), ?_⟩
    refine ⟨_, rfl, _, _, _, _, _, rfl, .ty _, hv.ty A.W, k_tuple d, _, rfl, ?_⟩
    by_cases ht : ∃ ds, d = .tuple ds
    · obtain ⟨ds, rfl⟩ := ht
      obtain ⟨a, vs, rfl, htp, hs⟩ := hv.tupE
      refine iteY (by simp [kitD, tyN]) ?_
      have sq := htp.sq A.W
      walk_at "rd"
      have e : Q (.bl (decide (V.int (vs.length : Nat) = V.int n))) H := by
        rw [hs.len]
        have e2 : decide (V.int (ds.length : Nat) = V.int n) = decide ((ds.length : Int) = n) := by
          by_cases c : (ds.length : Int) = n
          · rw [c]; simp
          · rw [decide_eq_false c]
            exact decide_eq_false fun z => c (V.int.inj z)
        rw [e2]
        exact q
      exact e
    · refine iteN (not_tup ht) ?_
      cases d with
      | tuple ds => exact absurd ⟨ds, rfl⟩ ht
      | _ => exact q
/-! ### are_any_rows, is_rising, are_rows -/
def anyB (n : Int) : PyData → Bool
  | .tuple ds => ds.all (isNum 0 (n - 1))
  | _ => false
def tupZ (d : PyData) : Prop := ∀ ds, d = .tuple ds → ds.length ≤ 1000000
def spAnyRows : Sp := fun vs H Q _ => ∃ (v : V) (d : PyData) (n : Int), vs = [v, .int n] ∧ Is [] H d v ∧ tupZ d ∧ ∀ H', Adv [] H H' → Q (.bl (anyB n d)) H'
theorem ok_are_any_rows (A : All K mg w) : FnOk P w K mg base CX0 3 A.are_any_rows.f A.are_any_rows.fd ["value", "count"] spAnyRows := by
  refine A.are_any_rows.F.ok sc_are_any_rows (fun vs H Q E h => ?_) (fun cdv Ar outer s H vs Q E hr h => ?_)
  · obtain ⟨v, d, n, rfl, _⟩ := h
    rfl
  · obtain ⟨v, d, n, rfl, hv, hz, q⟩ := h
    refine ⟨_, (pss_one (ps_ret (pe_and (pe_callB call_isi (by rfl) A.T.isinstance (by decide +kernel) (pa_cons (pv 0) (pa_cons (pe_bltn (v := .ty "tuple") (by rfl) A.T.tuple (by decide +kernel) rfl) pa_nil))) (pe_one (pe_callB (cr_all rfl) (by rfl) A.T.all (by decide +kernel) (pa_cons (pe_lc (own := [("item", 2)]) (g := (gName 2)) rfl sc_are_any_rows.nd (pi_tup (pv 0)) (blkOk_by (own := [("item", 2)]) (N := ["value", "count", "item"]) (sc := defScope s_are_any_rows) (by decide +kernel)) (fun _ _ _ _ _ => pg_name (i := 2) sc_are_any_rows.nd rfl (Or.inl rfl)) (fun _ _ _ _ _ => pts_nil) (fun _ _ _ _ _ => (pe_call (ok_is_between A) (hr.mono (by omega)) rfl A.is_between.m A.is_between.F.kp A.is_between.b .nil pass0 (pa_cons (pv 2) (pa_cons pe_int (pa_cons (pe_op op_sub (pv 1) pe_int) pa_nil)))))) pa_nil)))))), ?_⟩
    refine ⟨_, rfl, _, _, _, _, _, rfl, .ty _, hv.ty A.W, k_tuple d, _, rfl, ?_⟩
    by_cases ht : ∃ ds, d = .tuple ds
    · obtain ⟨ds, rfl⟩ := ht
      have hz := hz ds rfl
      obtain ⟨a, vs, rfl, htp, hs⟩ := hv.tupE
      have hl := hs.len
      refine iteY (by simp [kitD, tyN]) ?_
      refine ⟨_, rfl, a, rfl, ⟨_, htp.sq A.W⟩, fun D nD => ?_⟩
      refine lc_mapT (K := K) (a := a) (xs := vs) (fun i => V.bl (isNum 0 (n - 1) (ds.getD i .none))) nD (htp.sq A.W) (by omega) ?_ ?_
      · intro i x H' acc R hx aH hD k
        obtain ⟨dx, hdx, hisx⟩ := hs.getV hx
        have ed : ds.getD i .none = dx := by rw [List.getD_eq_getElem?_getD, hdx]; rfl
        refine ⟨rfl, x, rfl, _, rfl, n, 1, rfl, rfl, x, dx, 0, n - 1, rfl, (hisx.adv aH), ?_⟩
        have k' := k H' hD aH
        rw [ed] at k'
        exact k'
      · intro H' aH hD
        refine ⟨D, ds.map (isNum 0 (n - 1)), rfl, .inl (.inl ?_), ?_⟩
        · rw [hD, hl, range_map_list]
        · rw [all_id _ (isNum 0 (n - 1)) ds rfl]
          exact q H' aH
    · refine iteN (not_tup ht) ?_
      have q' := q H (Adv.refl _ _)
      cases d with
      | tuple ds => exact absurd ⟨ds, rfl⟩ ht
      | _ => exact q'
def spRising : Sp := fun vs H Q _ => ∃ (a : Addr) (rows : List Nat), vs = [.ref a] ∧ Tp [] H a (nVl rows) ∧ rows.length ≤ 1000000 ∧ ∀ H', Adv [] H H' → Q (.bl (risB (rows.map fun r => ((r : Nat) : Int)))) H'
theorem ok_is_rising (A : All K mg w) : FnOk P w K mg base CX0 1 A.is_rising.f A.is_rising.fd ["values"] spRising := by
  refine A.is_rising.F.ok sc_is_rising (fun vs H Q E h => ?_) (fun cdv Ar outer s H vs Q E hr h => ?_)
  · obtain ⟨a, rows, rfl, _⟩ := h
    rfl
  · obtain ⟨a, rows, rfl, hT, hz, q⟩ := h
    refine ⟨_, (pss_one (ps_ret (pe_callB (cr_all rfl) (by rfl) A.T.all (by decide +kernel) (pa_cons (pe_lc (own := [("k", 1)]) (g := (gName 1)) rfl sc_is_rising.nd (pi_range2 rfl A.T.range (pa_cons pe_int (pa_cons (pe_callB call_len_seq (by rfl) A.T.len PySem.boot_len (pa_cons (pv 0) pa_nil)) pa_nil))) (blkOk_by (own := [("k", 1)]) (N := ["values", "k"]) (sc := defScope s_is_rising) (by decide +kernel)) (fun _ _ _ _ _ => pg_name (i := 1) sc_is_rising.nd rfl (Or.inl rfl)) (fun _ _ _ _ _ => pts_nil) (fun _ _ _ _ _ => (pe_cmpR op_lt (pe_ix (ix_any K rfl) (pv 0) (pe_op op_sub (pv 1) pe_int) (fun _ _ => rfl)) (pe_ix (ix_any K rfl) (pv 0) (pv 1) (fun _ _ => rfl)) (nomark _)))) pa_nil)))), ?_⟩
    have hl : (nVl rows).length = rows.length := by unfold nVl; rw [List.length_map]
    have sq := hT.sq A.W
    refine ⟨_, rfl, a, _, rfl, .inr sq, 1, _, rfl, ⟨by decide, by decide, by omega, by rw [hl]; omega⟩, fun D nD => ?_⟩
    have hn : (((nVl rows).length : Nat) - 1 : Int).toNat = rows.length - 1 := by rw [hl]; omega
    rw [hn]
    have at_ : ∀ (j : Nat) (i : Int), j < rows.length → i = (j : Nat) → atI (nVl rows) i = some (.int (rows.getD j 0 : Nat)) := fun j i hj e => by
      rw [e]
      refine atI_nat (j := j) ?_
      unfold nVl
      simp [hj]
    refine lc_mapRl (fun i => V.bl (decide (((rows.getD i 0 : Nat) : Int) < (rows.getD (i + 1) 0 : Nat)))) nD (by omega) ?_ ?_
    · intro i H' acc R hi aH hD k
      have sq' := SqT.adv aH sq
      refine ⟨rfl, _, rfl, _, rfl, 1 + (i : Int), 1, rfl, rfl, .inr ⟨a, _, _, _, rfl, rfl, sq', at_ i _ (by omega) (by omega), _, rfl, _, rfl, .inr ⟨a, _, _, _, rfl, rfl, sq', at_ (i + 1) _ (by omega) (by omega), _, _, rfl, rfl, k H' hD aH⟩⟩⟩
    · intro H' aH hD
      refine ⟨D, (List.range (rows.length - 1)).map fun i => decide (((rows.getD i 0 : Nat) : Int) < (rows.getD (i + 1) 0 : Nat)), rfl, .inl (.inl ?_), ?_⟩
      · rw [hD, List.map_map]
        rfl
      · have q' := q H' aH
        have e : (List.map (fun i => decide (((rows.getD i 0 : Nat) : Int) < (rows.getD (i + 1) 0 : Nat))) (List.range (rows.length - 1))).all id = risB (rows.map fun r => ((r : Nat) : Int)) := by
          unfold risB
          rw [List.all_map, List.length_map]
          have gd : ∀ j : Nat, (rows.map fun r => ((r : Nat) : Int)).getD j 0 = ((rows.getD j 0 : Nat) : Int) := fun j => by
            rw [List.getD_eq_getElem?_getD, List.getD_eq_getElem?_getD, List.getElem?_map]
            cases rows[j]? <;> rfl
          congr 1
          funext i
          rw [gd, gd]
          rfl
        rw [e]
        exact q'
/-! ### check_logic, check_rows_of -/
def spCheckLogic (L : Addr) : Sp := fun vs H Q E => ∃ (x : Str), vs = [.str x] ∧ (logicOk x = true → Q .non H) ∧ (logicOk x = false → E (.ref L) none H)
theorem ok_check_logic (A : All K mg w) (Z : Exs K mg) (ZL : Er_BadLogic Z) : FnOk P w K mg base (L2N.CX P w) 1 A.check_logic.f A.check_logic.fd ["logic"] (spCheckLogic (Z.cA "BadLogic")) := by
  refine okXN A.check_logic.F sc_check_logic (fun vs H Q E h => ?_) (fun cdv Ar outer s H vs Q E hr h => ?_)
  · obtain ⟨x, rfl, _⟩ := h
    rfl
  · obtain ⟨x, rfl, q1, q2⟩ := h
    obtain ⟨a, ma, ha⟩ := A.C.logics
    refine ⟨_, (pss_one (ps_if (PW.pt (pw_or (pt_not (pt_val (pe_callB call_isi (by rfl) A.T.isinstance (by decide +kernel) (pa_cons (pv 0) (pa_cons (pe_bltn (v := .ty "str") (by rfl) A.T.str (by decide +kernel) rfl) pa_nil))))) (pw_or1 (pt_cmpR op_notIn_seq (pv 0) (pe_glob (v := .ref a) rfl ma rfl) rfl))))
    (pss_one (L2N.ps_raise rfl (L2N.takes_of rfl rfl rfl rfl) (pmk_noargN PySem.F.excBase_ValueError ZL.Q (Z.mA "BadLogic" (by decide)) ZL.K_ (raises_own ZL.B ZL.T) rfl)))
    pss_nil)), ?_⟩
    refine ⟨_, rfl, _, _, _, _, _, rfl, .ty _, (Is.str (M := [])).ty A.W, k_str (.str x), _, rfl, ?_⟩
    refine iteN rfl ?_
    refine ⟨_, rfl, a, _, rfl, .inr (ha H), rfl, by decide, _, rfl, ?_⟩
    have e : inV (.str x) [.str "classical", .str "intuit", .str "k", .str "s4", .str "gl"] = logicOk x := (inV_strs x ["classical", "intuit", "k", "s4", "gl"]).trans (by simp [logicOk, Bool.or_assoc])
    rw [if_pos rfl, e]
    cases hl : logicOk x with
    | true => exact q1 hl
    | false => exact q2 hl
theorem adv_raise {H1 : Hp} {a dx : Addr} {o1 o2 o3 o4 : HO} (na : H1 a = none) (n1 : H1 dx = none) : Adv [] H1 (upd (del (upd (upd (upd H1 a o1) dx o2) a o3) a) dx o4) := fun b o hb eb => by
  have hba : b ≠ a := ne_of_none eb na
  have hbd : b ≠ dx := ne_of_none eb n1
  rw [upd_ne hbd, del_ne hba, upd_ne hba, upd_ne hbd, upd_ne hba]
  exact eb
def spCheckRows (S : Addr) : Sp := fun vs H Q E => ∃ (v : V) (d : PyData) (most : Int) (boxed : Bool), vs = [v, .int most, .bl boxed] ∧ Is [] H d v ∧ 0 ≤ most ∧ (∀ ds, d = .list ds → ds.length ≤ 1000000) ∧
  (wrongD most boxed d = none → ∀ H', Adv [] H H' → Q .non H') ∧ (∀ r, wrongD most boxed d = some r → ∀ dd H', Adv [] H H' → H dd = none → H' dd = some (.xd [("row", .int r)]) → E (.ref S) (some dd) H')
theorem ok_check_rows_of (A : All K mg w) (Z : Exs K mg) (Z1 : Er_BadSheet Z) : FnOk P w K mg base (L2N.CX P w) 5 A.check_rows_of.f A.check_rows_of.fd ["sheet", "most", "boxed"] (spCheckRows (Z.cA "BadSheet")) := by
  refine okXN A.check_rows_of.F sc_check_rows_of (fun vs H Q E h => ?_) (fun cdv Ar outer s H vs Q E hr h => ?_)
  · obtain ⟨v, d, most, boxed, rfl, _⟩ := h
    rfl
  · obtain ⟨v, d, most, boxed, rfl, hv, h0, hl, q1, q2⟩ := h
    refine ⟨_, (pss_cons (ps_set (i := 3) sc_check_rows_of.nd rfl (Or.inl rfl) (pe_call (ok_wrong_row A) (hr.mono (by omega)) rfl A.wrong_row.m A.wrong_row.F.kp A.wrong_row.b .nil pass0 (pa_cons (pv 0) (pa_cons (pv 1) (pa_cons (pv 2) pa_nil)))))
  (pss_one (ps_if (pt_cmpR op_notN (pv 3) pe_non (nomark _))
    (pss_one (L2N.ps_raise rfl (L2N.takes_of rfl rfl rfl rfl) (pmk_initN Z1.O Z1.I Z1.T (ok_BadSheet Z1) (hr.mono (by omega)) Z1.b .nil pass0 rfl (Z.mA "BadSheet" (by decide)) (pa_cons (pv 3) pa_nil))))
    pss_nil))), ?_⟩
    walk_at "rd"
    refine ⟨v, d, most, boxed, rfl, hv, h0, hl, fun H1 a1 => ?_⟩
    walk_at "rd"
    cases e : wrongD most boxed d with
    | none => exact iteN (by decide) (q1 e H1 a1)
    | some r =>
      refine iteY (by simp [resV]) ?_
      refine ⟨_, rfl, Nat.le_of_ble_eq_true rfl, fun a na => ⟨a, .int r, rfl, upd_same, fun dx n1 n2 => ⟨rfl, dx, [("row", .int r)], upd_same, ?_, ?_, ?_⟩⟩⟩
      · rw [upd_ne n2, upd_same]
      · rw [upd_ne n2] at n1
        exact n1
      · have n1' : H1 dx = none := by rw [upd_ne n2] at n1; exact n1
        exact q2 r e dx _ (a1.trans (adv_raise na n1')) (a1.free (by simp) n1') upd_same
theorem any_rows {n : Int} {d : PyData} (h : anyB n d = true) : ∃ rows : List Nat, d = .tuple (nD rows) ∧ ∀ r ∈ rows, (r : Int) < n := by
  cases d with
  | tuple ds =>
    obtain ⟨rows, rfl, h2⟩ := all_nat (n := n) h
    exact ⟨rows, rfl, h2⟩
  | _ => cases h
theorem rowsB_any {n : Int} {d : PyData} (h : anyB n d = false) : rowsB n d = false := by
  cases d with
  | tuple ds =>
    have h : ds.all (isNum 0 (n - 1)) = false := h
    show (ds.all (isNum 0 (n - 1)) && _) = false
    rw [h, Bool.false_and]
  | _ => rfl
theorem rowsB_ris {n : Int} {rows : List Nat} (h : anyB n (.tuple (nD rows)) = true) : rowsB n (.tuple (nD rows)) = risB (rows.map fun r => ((r : Nat) : Int)) := by
  have h : (nD rows).all (isNum 0 (n - 1)) = true := h
  show ((nD rows).all (isNum 0 (n - 1)) && risB ((nD rows).map LL.intD)) = _
  rw [h, Bool.true_and, nD_int]
/-! ### are_rows -/
def spAreRows : Sp := fun vs H Q _ => ∃ (v : V) (d : PyData) (n : Int), vs = [v, .int n] ∧ Is [] H d v ∧ tupZ d ∧ ∀ H', Adv [] H H' → Q (.bl (rowsB n d)) H'
theorem ok_are_rows (A : All K mg w) : FnOk P w K mg base CX0 4 A.are_rows.f A.are_rows.fd ["value", "count"] spAreRows := by
  refine A.are_rows.F.ok sc_are_rows (fun vs H Q E h => ?_) (fun cdv Ar outer s H vs Q E hr h => ?_)
  · obtain ⟨v, d, n, rfl, _⟩ := h
    rfl
  · obtain ⟨v, d, n, rfl, hv, hz, q⟩ := h
    refine ⟨_, (pss_one (ps_ret (pe_and (pe_call (ok_are_any_rows A) (hr.mono (by omega)) rfl A.are_any_rows.m A.are_any_rows.F.kp A.are_any_rows.b .nil pass0 (pa_cons (pv 0) (pa_cons (pv 1) pa_nil))) (pe_one (pe_call (ok_is_rising A) (hr.mono (by omega)) rfl A.is_rising.m A.is_rising.F.kp A.is_rising.b .nil pass0 (pa_cons (pv 0) pa_nil)))))), ?_⟩
    walk_at "rd"
    refine ⟨v, d, n, rfl, hv, hz, fun H1 a1 => ?_⟩
    walk_at "rd"
    cases e : anyB n d with
    | false =>
      refine iteN rfl ?_
      have q' := q H1 a1
      rw [rowsB_any e] at q'
      exact q'
    | true =>
      obtain ⟨rows, rfl, hr⟩ := any_rows e
      refine iteY rfl ?_
      obtain ⟨a, vs, rfl, htp, hs⟩ := hv.tupE
      have hl := hz _ rfl
      rw [show (nD rows).length = rows.length from List.length_map ..] at hl
      rw [nD_of hs] at htp
      walk_at "rd"
      refine ⟨a, rows, rfl, htp.adv a1, hl, fun H2 a2 => ?_⟩
      have q' := q H2 (a1.trans a2)
      rw [rowsB_ris e] at q'
      exact q'
/-! ### check_claim_to -/
abbrev cw (c : Str) (x : PyData) : Option (Str × PyData) := some (c, x)
/-- what is wrong with a claim over a sheet of at most m rows -/
def claimM (m : Int) (b : Bool) : PyData → Option (Str × PyData)
  | .tuple [sh, th, le, ri] =>
    match wrongD m b sh with
    | some i => some ("BadSheet", .int i)
    | none => if (rowsB (lenD sh) th && (b || emptyT th)) = false then some ("BadClaim", .str "theory") else if rowsB (lenD sh) le = false then some ("BadClaim", .str "left") else if rowsB (lenD sh) ri = false then some ("BadClaim", .str "right") else none
  | _ => some ("BadClaim", .str "claim")
structure ClmP (cL cS cC : Addr) (m : Int) (x : Str) (v : V) (H : Hp) (Q : VK) (E : XK) : Prop where
  ex : ∃ d : PyData, Is [] H d v ∧ sz d ≤ 1000000 ∧ (logicOk x = false → E (.ref cL) none H) ∧ (logicOk x = true →
    (∀ i, claimM m (logicB x) d = cw "BadSheet" (.int i) → ∀ dd H', Adv [] H H' → H dd = none → H' dd = some (.xd [("row", .int i)]) → E (.ref cS) (some dd) H') ∧
    (∀ z, claimM m (logicB x) d = cw "BadClaim" (.str z) → ∀ dd H', Adv [] H H' → H dd = none → H' dd = some (.xd [("word", .str z)]) → E (.ref cC) (some dd) H') ∧
    (claimM m (logicB x) d = none → ∀ H', Adv [] H H' → Q .non H'))
def spClaimTo (cL cS cC : Addr) : Sp := fun vs H Q E => ∃ x v m, vs = [.str x, v, .int m] ∧ 0 ≤ m ∧ ClmP cL cS cC m x v H Q E
theorem four_not {m : Int} {b : Bool} {d : PyData} (h : tupN 4 d = false) : claimM m b d = cw "BadClaim" (.str "claim") := by
  unfold claimM
  split
  · simp [tupN] at h
  · rfl
theorem four_yes {d : PyData} (h : tupN 4 d = true) : ∃ a b c e, d = .tuple [a, b, c, e] := by
  cases d with
  | tuple ds =>
    have h : (ds.length : Int) = 4 := of_decide_eq_true h
    match ds, h with
    | [a, b, c, e], _ => exact ⟨a, b, c, e, rfl⟩
  | _ => cases h
theorem lay_nD : ∀ rows : List Nat, PyData.canLayAll0 (nD rows) = true
  | [] => rfl
  | r :: rows => by
    show PyData.canLayAll0 (.int (r : Nat) :: nD rows) = true
    unfold PyData.canLayAll0
    rw [lay_nD rows]
    rfl
theorem depth_nD : ∀ rows : List Nat, PyData.depthAll (nD rows) ≤ 1
  | [] => Nat.zero_le _
  | r :: rows => by
    show PyData.depthAll (.int (r : Nat) :: nD rows) ≤ 1
    unfold PyData.depthAll
    have := depth_nD rows
    have : PyData.depth (.int (r : Nat)) ≤ 1 := by unfold PyData.depth; omega
    omega
theorem shaped_nD (rows : List Nat) : SeqAt.shaped (.tuple (nD rows)) = true := by
  unfold SeqAt.shaped PyData.canLay0
  rw [lay_nD, Bool.true_and]
  have := depth_nD rows
  unfold PyData.depth
  simp
  omega
theorem dp_nD {H : Hp} : ∀ rows : List Nat, DpAll K H (nVl rows) (nD rows)
  | [] => .nil
  | r :: rows => .cons (.int _) (dp_nD rows)
theorem eqv_nil (rows : List Nat) : PyData.eqv (.tuple (nD rows)) (.tuple []) = rows.isEmpty := by
  cases rows with
  | nil => rfl
  | cons r rows => rfl
theorem IsDs.four {M : List Addr} {H : Hp} {a b c d : PyData} {vs : List V} (h : IsDs M H [a, b, c, d] vs) : ∃ va vb vc vd, vs = [va, vb, vc, vd] ∧ Is M H a va ∧ Is M H b vb ∧ Is M H c vc ∧ Is M H d vd := by
  unfold IsDs at h
  obtain ⟨va, ws, rfl, h1, h⟩ := h
  unfold IsDs at h
  obtain ⟨vb, ws, rfl, h2, h⟩ := h
  unfold IsDs at h
  obtain ⟨vc, ws, rfl, h3, h⟩ := h
  unfold IsDs at h
  obtain ⟨vd, ws, rfl, h4, h⟩ := h
  unfold IsDs at h
  subst h
  exact ⟨va, vb, vc, vd, rfl, h1, h2, h3, h4⟩
theorem cw_sheet {m : Int} {bx : Bool} {a b c d : PyData} {i : Int} (e : wrongD m bx a = some i) : claimM m bx (.tuple [a, b, c, d]) = cw "BadSheet" (.int i) := by
  show (match wrongD m bx a with | some i => _ | none => _) = _
  rw [e]
theorem cw_next {m : Int} {bx : Bool} {a b c d : PyData} (e : wrongD m bx a = none) : claimM m bx (.tuple [a, b, c, d]) = if (rowsB (lenD a) b && (bx || emptyT b)) = false then cw "BadClaim" (.str "theory") else if rowsB (lenD a) c = false then cw "BadClaim" (.str "left") else if rowsB (lenD a) d = false then cw "BadClaim" (.str "right") else none := by
  show (match wrongD m bx a with | some i => _ | none => _) = _
  rw [e]
theorem sz_four {a b c d : PyData} (h : sz (.tuple [a, b, c, d]) ≤ 1000000) : sz a ≤ 1000000 ∧ sz b ≤ 1000000 ∧ sz c ≤ 1000000 ∧ sz d ≤ 1000000 := by
  rw [sz_tup, szL_cons, szL_cons, szL_cons, szL_cons, szL_nil] at h
  omega
theorem sz_tupZ {d : PyData} (h : sz d ≤ 1000000) : tupZ d := fun ds e => by
  subst e
  have := szL_len ds
  rw [sz_tup] at h
  omega
theorem sz_lstZ {d : PyData} (h : sz d ≤ 1000000) : ∀ ds, d = .list ds → ds.length ≤ 1000000 := fun ds e => by
  subst e
  have := szL_len ds
  rw [sz_lst] at h
  omega
theorem ok_check_claim_to (A : All K mg w) (Z : Exs K mg) (ZL : Er_BadLogic Z) (Z1 : Er_BadSheet Z) (Z3 : Er_BadClaim Z) : FnOk P w K mg base (L2N.CX P w) 6 A.check_claim_to.f A.check_claim_to.fd ["logic", "claim", "most"] (spClaimTo (Z.cA "BadLogic") (Z.cA "BadSheet") (Z.cA "BadClaim")) := by
  refine okXN A.check_claim_to.F sc_check_claim_to (fun vs H Q E h => ?_) (fun cdv Ar outer s H vs Q E hr h => ?_)
  · obtain ⟨x, v, m, rfl, _⟩ := h
    rfl
  · obtain ⟨x, v, m, rfl, hm, X⟩ := h
    obtain ⟨d, hv, hz, qL, q0⟩ := X.ex
    refine ⟨_, (pss_cons (ps_expr (pe_callS (ok_check_logic A Z ZL) (hr.mono (by omega)) rfl A.check_logic.m A.check_logic.F.kp A.check_logic.b (L2N.passAt (L2N.takes_of rfl rfl rfl rfl)) (pa_cons (pv 0) pa_nil)))
  (pss_cut (ps_if (pt_not (pt_val (pe_call (ok_is_tuple_of A) (hr.mono (by omega)) rfl A.is_tuple_of.m A.is_tuple_of.F.kp A.is_tuple_of.b .nil pass0 (pa_cons (pv 1) (pa_cons pe_int pa_nil)))))
    (pss_one (L2N.ps_raise rfl (L2N.takes_of rfl rfl rfl rfl) (pmk_initN Z3.O Z3.I Z3.T (ok_BadClaim Z3) (hr.mono (by omega)) Z3.b .nil pass0 rfl (Z.mA "BadClaim" (by decide)) (pa_cons pe_str pa_nil))))
    pss_nil)
  (pss_cons (ps_asg (pv 1) (pg_tup rfl (pgs_cons (pg_name (i := 3) sc_check_claim_to.nd rfl (Or.inl rfl)) (pgs_cons (pg_name (i := 4) sc_check_claim_to.nd rfl (Or.inl rfl)) (pgs_cons (pg_name (i := 5) sc_check_claim_to.nd rfl (Or.inl rfl)) (pgs_cons (pg_name (i := 6) sc_check_claim_to.nd rfl (Or.inl rfl)) pgs_nil))))))
  (pss_cons (ps_expr (pe_callS (ok_check_rows_of A Z Z1) (hr.mono (by omega)) rfl A.check_rows_of.m A.check_rows_of.F.kp A.check_rows_of.b (L2N.passAt (L2N.takes_of rfl rfl rfl rfl)) (pa_cons (pv 3) (pa_cons (pv 2) (pa_cons (pe_call (ok_is_boxed A) (hr.mono (by omega)) rfl A.is_boxed.m A.is_boxed.F.kp A.is_boxed.b .nil pass0 (pa_cons (pv 0) pa_nil)) pa_nil)))))
  (pss_cut (ps_if (PW.pt (pw_or (pt_not (pt_val (pe_call (ok_are_rows A) (hr.mono (by omega)) rfl A.are_rows.m A.are_rows.F.kp A.are_rows.b .nil pass0 (pa_cons (pv 4) (pa_cons (pe_callB call_len_seq (by rfl) A.T.len PySem.boot_len (pa_cons (pv 3) pa_nil)) pa_nil))))) (pw_or1 (PW.pt (pw_and (pt_cmpR (op_neD hr.units) (pv 4) (pe_tup pa_nil) (nomark _)) (pw_and1 (pt_not (pt_val (pe_call (ok_is_boxed A) (hr.mono (by omega)) rfl A.is_boxed.m A.is_boxed.F.kp A.is_boxed.b .nil pass0 (pa_cons (pv 0) pa_nil))))))))))
    (pss_one (L2N.ps_raise rfl (L2N.takes_of rfl rfl rfl rfl) (pmk_initN Z3.O Z3.I Z3.T (ok_BadClaim Z3) (hr.mono (by omega)) Z3.b .nil pass0 rfl (Z.mA "BadClaim" (by decide)) (pa_cons pe_str pa_nil))))
    pss_nil)
  (pss_cut (ps_if (pt_not (pt_val (pe_call (ok_are_rows A) (hr.mono (by omega)) rfl A.are_rows.m A.are_rows.F.kp A.are_rows.b .nil pass0 (pa_cons (pv 5) (pa_cons (pe_callB call_len_seq (by rfl) A.T.len PySem.boot_len (pa_cons (pv 3) pa_nil)) pa_nil)))))
    (pss_one (L2N.ps_raise rfl (L2N.takes_of rfl rfl rfl rfl) (pmk_initN Z3.O Z3.I Z3.T (ok_BadClaim Z3) (hr.mono (by omega)) Z3.b .nil pass0 rfl (Z.mA "BadClaim" (by decide)) (pa_cons pe_str pa_nil))))
    pss_nil)
  (pss_one (ps_if (pt_not (pt_val (pe_call (ok_are_rows A) (hr.mono (by omega)) rfl A.are_rows.m A.are_rows.F.kp A.are_rows.b .nil pass0 (pa_cons (pv 6) (pa_cons (pe_callB call_len_seq (by rfl) A.T.len PySem.boot_len (pa_cons (pv 3) pa_nil)) pa_nil)))))
    (pss_one (L2N.ps_raise rfl (L2N.takes_of rfl rfl rfl rfl) (pmk_initN Z3.O Z3.I Z3.T (ok_BadClaim Z3) (hr.mono (by omega)) Z3.b .nil pass0 rfl (Z.mA "BadClaim" (by decide)) (pa_cons pe_str pa_nil))))
    pss_nil)))))))), ?_⟩
    walk_at "rd"
    refine ⟨x, rfl, fun hx => ?_, qL⟩
    obtain ⟨q1, q2, q3⟩ := q0 hx
    generalize hb : logicB x = bx at q1 q2 q3
    walk_at "rd"
    refine ⟨fun σ' H' => H' = H ∧ tupN 4 d = true ∧ σ' = [some (.str x), some v, some (.int m), none, none, none, none], ?_, ?_⟩
    · walk_at "rd"
      refine ⟨v, d, 4, rfl, hv, ?_⟩
      walk_at "rd"
      cases e : tupN 4 d with
      | false =>
        refine iteY rfl ?_
        refine ⟨Nat.le_of_ble_eq_true rfl, fun a na => ⟨a, .str "claim", rfl, upd_same, fun dx n1 n2 => ⟨rfl, dx, [("word", .str "claim")], upd_same, ?_, ?_, ?_⟩⟩⟩
        · rw [upd_ne n2, upd_same]
        · rw [upd_ne n2] at n1
          exact n1
        · have n1' : H dx = none := by rw [upd_ne n2] at n1; exact n1
          exact q2 "claim" (four_not e) dx _ (adv_raise na n1') n1' upd_same
      | true =>
        refine iteN rfl ?_
        walk_at "rd"
        exact rfl
    · rintro σ' H1 ⟨rfl, e4, rfl⟩
      obtain ⟨da, db, dc, de, rfl⟩ := four_yes e4
      obtain ⟨z1, z2, z3, z4⟩ := sz_four hz
      obtain ⟨t, vs, rfl, htp, hs⟩ := hv.tupE
      obtain ⟨va, vb, vc, ve, rfl, ha, hb', hc, he⟩ := IsDs.four hs
      have sq := htp.sq A.W
      walk_at "rd"
      refine rd_gtup sq rfl ?_
      walk_at "rd"
      refine ⟨x, rfl, fun H2 a2 => ?_⟩
      rw [hb]
      walk_at "rd"
      refine ⟨va, da, m, bx, rfl, ha.adv a2, hm, sz_lstZ z1, fun e H3 a3 => ?_, fun r e dd H3 a3 n3 h3 => q1 r (cw_sheet e) dd H3 (a2.trans a3) (a2.free (by simp) n3) h3⟩
      have a13 := a2.trans a3
      obtain ⟨ns, rfl, ok, hl⟩ := wrongD_none hm e
      obtain ⟨sh, rs, rfl, _, hsh, rd⟩ := ha.lstE
      have hrl := rd.len
      rw [List.length_map] at hrl
      have el : lenD (.list (ns.map Nd.data)) = ns.length := by show (ns.map Nd.data).length = ns.length; rw [List.length_map]
      have cn := cw_next (b := db) (c := dc) (d := de) e
      rw [el] at cn
      walk_at "rd"
      refine ⟨fun σ' H' => Adv [] H1 H' ∧ (rowsB (ns.length : Nat) db && (bx || emptyT db)) = true ∧ σ' = [some (.str x), some (.ref t), some (.int m), some (.ref sh), some vb, some vc, some ve], ?_, ?_⟩
      · have hsh3 := a13.same _ _ hsh
        walk_at "rd"
        refine ⟨vb, db, (rs.length : Nat), rfl, hb'.adv a13, sz_tupZ z2, fun H4 a4 => ?_⟩
        rw [hrl]
        walk_at "rd"
        cases e1 : rowsB (ns.length : Nat) db with
        | false =>
          refine iteY rfl (iteY rfl ?_)
          refine ⟨Nat.le_of_ble_eq_true rfl, fun a na => ⟨a, .str "theory", rfl, upd_same, fun dx n1 n2 => ⟨rfl, dx, [("word", .str "theory")], upd_same, ?_, ?_, ?_⟩⟩⟩
          · rw [upd_ne n2, upd_same]
          · rw [upd_ne n2] at n1
            exact n1
          · have n1' : H4 dx = none := by rw [upd_ne n2] at n1; exact n1
            exact q2 "theory" (cn.trans (if_pos (by rw [e1]; rfl))) dx _ ((a13.trans a4).trans (adv_raise na n1')) ((a13.trans a4).free (by simp) n1') upd_same
        | true =>
          refine iteN rfl ?_
          obtain ⟨rows, rfl, hr1, hr2⟩ := rows_nat e1
          obtain ⟨tb, us, rfl, htb, hsb⟩ := hb'.tupE
          rw [nD_of hsb] at htb
          walk_at "rd"
          refine ⟨Nat.zero_le _, fun p np => ?_⟩
          have a5 : Adv [] H1 (upd H4 p (.tup [])) := (a13.trans a4).newT np
          refine ⟨_, _, .tup ((htb.adv a5).sq A.W) (dp_nD rows), .tup (SqT.of upd_same) .nil, shaped_nD rows, by decide +kernel, ?_⟩
          rw [eqv_nil]
          walk_at "rd"
          cases rows with
          | nil =>
            refine iteN rfl (iteN rfl ?_)
            walk_at "rd"
            exact ⟨a5, by cases bx <;> rfl, rfl⟩
          | cons r rows =>
            refine iteY rfl ?_
            walk_at "rd"
            refine ⟨x, rfl, fun H6 a6 => ?_⟩
            rw [hb]
            cases bx with
            | true =>
              walk_at "rd"
              exact ⟨a5.trans a6, by rw [Bool.true_or, Bool.and_true], rfl⟩
            | false =>
            walk_at "rd"
            refine ⟨Nat.le_of_ble_eq_true rfl, fun a na => ⟨a, .str "theory", rfl, upd_same, fun dx n1 n2 => ⟨rfl, dx, [("word", .str "theory")], upd_same, ?_, ?_, ?_⟩⟩⟩
            · rw [upd_ne n2, upd_same]
            · rw [upd_ne n2] at n1
              exact n1
            · have n1' : H6 dx = none := by rw [upd_ne n2] at n1; exact n1
              exact q2 "theory" (cn.trans (if_pos (by rw [e1]; rfl))) dx _ ((a5.trans a6).trans (adv_raise na n1')) ((a5.trans a6).free (by simp) n1') upd_same
      · rintro σ' H4 ⟨a4, e1, rfl⟩
        rw [if_neg (by rw [e1]; decide)] at cn
        have hsh4 := a4.same _ _ hsh
        walk_at "rd"
        refine ⟨fun σ' H' => Adv [] H1 H' ∧ rowsB (ns.length : Nat) dc = true ∧ σ' = [some (.str x), some (.ref t), some (.int m), some (.ref sh), some vb, some vc, some ve], ?_, ?_⟩
        · walk_at "rd"
          refine ⟨vc, dc, (rs.length : Nat), rfl, hc.adv a4, sz_tupZ z3, fun H5 a5 => ?_⟩
          rw [hrl]
          walk_at "rd"
          cases e2 : rowsB (ns.length : Nat) dc with
          | false =>
            refine iteY rfl ?_
            refine ⟨Nat.le_of_ble_eq_true rfl, fun a na => ⟨a, .str "left", rfl, upd_same, fun dx n1 n2 => ⟨rfl, dx, [("word", .str "left")], upd_same, ?_, ?_, ?_⟩⟩⟩
            · rw [upd_ne n2, upd_same]
            · rw [upd_ne n2] at n1
              exact n1
            · have n1' : H5 dx = none := by rw [upd_ne n2] at n1; exact n1
              exact q2 "left" (cn.trans (if_pos e2)) dx _ ((a4.trans a5).trans (adv_raise na n1')) ((a4.trans a5).free (by simp) n1') upd_same
          | true =>
            refine iteN rfl ?_
            walk_at "rd"
            exact ⟨a4.trans a5, rfl, rfl⟩
        · rintro σ' H5 ⟨a5, e2, rfl⟩
          rw [if_neg (by rw [e2]; decide)] at cn
          have hsh5 := a5.same _ _ hsh
          walk_at "rd"
          refine ⟨ve, de, (rs.length : Nat), rfl, he.adv a5, sz_tupZ z4, fun H6 a6 => ?_⟩
          rw [hrl]
          walk_at "rd"
          cases e3 : rowsB (ns.length : Nat) de with
          | false =>
            refine iteY rfl ?_
            refine ⟨Nat.le_of_ble_eq_true rfl, fun a na => ⟨a, .str "right", rfl, upd_same, fun dx n1 n2 => ⟨rfl, dx, [("word", .str "right")], upd_same, ?_, ?_, ?_⟩⟩⟩
            · rw [upd_ne n2, upd_same]
            · rw [upd_ne n2] at n1
              exact n1
            · have n1' : H6 dx = none := by rw [upd_ne n2] at n1; exact n1
              exact q2 "right" (cn.trans (if_pos e3)) dx _ ((a5.trans a6).trans (adv_raise na n1')) ((a5.trans a6).free (by simp) n1') upd_same
          | true =>
            refine iteN rfl ?_
            rw [if_neg (by rw [e3]; decide)] at cn
            exact q3 cn _ (a5.trans a6)
/-! ### check_claim -/
def spChkClaim (cL cS cC : Addr) : Sp := fun vs H Q E => ∃ x v, vs = [.str x, v] ∧ ClmP cL cS cC 60 x v H Q E
theorem ok_check_claim (A : All K mg w) (Z : Exs K mg) (ZL : Er_BadLogic Z) (Z1 : Er_BadSheet Z) (Z3 : Er_BadClaim Z) : FnOk P w K mg base (L2N.CX P w) 7 A.check_claim.f A.check_claim.fd ["logic", "claim"] (spChkClaim (Z.cA "BadLogic") (Z.cA "BadSheet") (Z.cA "BadClaim")) := by
  refine okXN A.check_claim.F sc_check_claim (fun vs H Q E h => ?_) (fun cdv Ar outer s H vs Q E hr h => ?_)
  · obtain ⟨x, v, rfl, _⟩ := h
    rfl
  · obtain ⟨x, v, rfl, X⟩ := h
    obtain ⟨tM, mM⟩ := A.C.most
    refine ⟨_, (pss_one (ps_expr (pe_callS (ok_check_claim_to A Z ZL Z1 Z3) (hr.mono (by omega)) rfl A.check_claim_to.m A.check_claim_to.F.kp A.check_claim_to.b (L2N.passAt (L2N.takes_of rfl rfl rfl rfl)) (pa_cons (pv 0) (pa_cons (pv 1) (pa_cons (pe_glob (v := .int 60) rfl mM ⟨_, rfl⟩) pa_nil)))))), ?_⟩
    walk_at "rd"
    exact ⟨x, v, 60, rfl, by decide, ⟨X.ex⟩⟩
end

set_option Elab.async false
set_option linter.all false
set_option maxRecDepth 100000
set_option maxHeartbeats 4000000
open PySem PySem.Spec PyProof.Rows L2 LL
open C8 (pss_cut)
section
variable [KW]
variable {P : Program} {w : World} {K : PySem.W.Frag} {mg : Str → Option Value} {base : Heap}
/-! ### keys -/
def keyB (x : Str) : Nd → Bool
  | .letter _ => true
  | .bin .imp _ _ => decide (x = "intuit")
  | .box _ => logicB x
  | _ => false
def keysF (x : Str) (ns : List Nd) (rows : List Nat) : List Nat := (belowF ns rows).filter fun i => keyB x (ns[i]?.getD .no)
structure KeyP (vs : List V) (H : Hp) (Q : VK) : Prop where
  ex : ∃ (x : Str) (a : Addr) (n : Nd), vs = [.str x, .ref a] ∧ Tp [] H a (n.keys.map kV) ∧ ∀ H', Adv [] H H' → Q (.bl (keyB x n)) H'
def spKey : Sp := fun vs H Q _ => KeyP vs H Q
theorem ok_is_key (A : All K mg w) : FnOk P w K mg base CX0 2 A.is_key.f A.is_key.fd ["logic", "node"] spKey := by
  refine A.is_key.F.ok sc_is_key (fun vs H Q E h => ?_) (fun cdv Ar outer s H vs Q E hr h => ?_)
  · obtain ⟨x, a, n, rfl, _⟩ := h.ex
    rfl
  · obtain ⟨x, a, n, rfl, ha, q⟩ := h.ex
    refine ⟨_, (pss_cons (ps_if (pt_cmpR op_eq (pe_ix ix_tup (pv 1) pe_int (fun _ _ => rfl)) pe_str (nomark _))
    (pss_one (ps_ret pe_bl))
    pss_nil)
  (pss_cons (ps_if (pt_cmpR op_eq (pv 0) pe_str (nomark _))
    (pss_one (ps_ret (pe_cmpR op_eq (pe_ix ix_tup (pv 1) pe_int (fun _ _ => rfl)) pe_str (nomark _))))
    pss_nil)
  (pss_one (ps_ret (pe_and (pe_call (ok_is_boxed A) (hr.mono (by omega)) rfl A.is_boxed.m A.is_boxed.F.kp A.is_boxed.b .nil pass0 (pa_cons (pv 0) pa_nil)) (pe_one (pe_cmpR op_eq (pe_ix ix_tup (pv 1) pe_int (fun _ _ => rfl)) pe_str (nomark _)))))))), ?_⟩
    have sqa := ha.sq A.W
    by_cases ex : x = "intuit"
    · subst ex
      cases n with
      | letter i =>
        have sq : SqT K H a [.str "letter", .int (i : Nat)] := sqa
        clear sqa
        walk_at "rd"
        exact q H (Adv.refl _ _)
      | no =>
        have sq : SqT K H a [.str "no"] := sqa
        clear sqa
        walk_at "rd"
        exact q H (Adv.refl _ _)
      | box j =>
        have sq : SqT K H a [.str "box", .int (j : Nat)] := sqa
        clear sqa
        walk_at "rd"
        exact q H (Adv.refl _ _)
      | bin o j k =>
        have sq : SqT K H a [.str o.str, .int (j : Nat), .int (k : Nat)] := sqa
        clear sqa
        cases o with
        | and =>
          have sq' : SqT K H a [.str "and", .int (j : Nat), .int (k : Nat)] := sq
          clear sq
          walk_at "rd"
          exact q H (Adv.refl _ _)
        | or =>
          have sq' : SqT K H a [.str "or", .int (j : Nat), .int (k : Nat)] := sq
          clear sq
          walk_at "rd"
          exact q H (Adv.refl _ _)
        | imp =>
          have sq' : SqT K H a [.str "if", .int (j : Nat), .int (k : Nat)] := sq
          clear sq
          walk_at "rd"
          exact q H (Adv.refl _ _)
    · have e0 : decide (V.str x = V.str "intuit") = false := decide_eq_false fun z => ex (V.str.inj z)
      cases n with
      | letter i =>
        have sq : SqT K H a [.str "letter", .int (i : Nat)] := sqa
        clear sqa
        walk_at "rd"
        exact q H (Adv.refl _ _)
      | no =>
        have sq : SqT K H a [.str "no"] := sqa
        clear sqa
        walk_at "rd"
        refine ⟨x, rfl, fun H1 a1 => ?_⟩
        have sq1 := SqT.adv a1 sq
        have q' := q H1 a1
        walk_at "rd"
        cases e1 : logicB x with
        | true =>
          refine iteY rfl ?_
          walk_at "rd"
          exact q'
        | false =>
          refine iteN rfl ?_
          walk_at "rd"
          exact q'
      | box j =>
        have sq : SqT K H a [.str "box", .int (j : Nat)] := sqa
        clear sqa
        walk_at "rd"
        refine ⟨x, rfl, fun H1 a1 => ?_⟩
        have sq1 := SqT.adv a1 sq
        have q' := q H1 a1
        walk_at "rd"
        cases e1 : logicB x with
        | true =>
          refine iteY rfl ?_
          walk_at "rd"
          rw [show keyB x (.box j) = logicB x from rfl, e1] at q'
          exact q'
        | false =>
          refine iteN rfl ?_
          walk_at "rd"
          rw [show keyB x (.box j) = logicB x from rfl, e1] at q'
          exact q'
      | bin o j k =>
        have eb : keyB x (.bin o j k) = false := by
          cases o with
          | imp => exact decide_eq_false ex
          | _ => rfl
        have sq0 : SqT K H a [.str o.str, .int (j : Nat), .int (k : Nat)] := sqa
        clear sqa
        rw [eb] at q
        cases o with
        | and =>
          have sq : SqT K H a [.str "and", .int (j : Nat), .int (k : Nat)] := sq0
          clear sq0
          walk_at "rd"
          refine ⟨x, rfl, fun H1 a1 => ?_⟩
          have sq1 := SqT.adv a1 sq
          have q' := q H1 a1
          walk_at "rd"
          cases e1 : logicB x with
          | true =>
            refine iteY rfl ?_
            walk_at "rd"
            exact q'
          | false =>
            refine iteN rfl ?_
            walk_at "rd"
            exact q'
        | or =>
          have sq : SqT K H a [.str "or", .int (j : Nat), .int (k : Nat)] := sq0
          clear sq0
          walk_at "rd"
          refine ⟨x, rfl, fun H1 a1 => ?_⟩
          have sq1 := SqT.adv a1 sq
          have q' := q H1 a1
          walk_at "rd"
          cases e1 : logicB x with
          | true =>
            refine iteY rfl ?_
            walk_at "rd"
            exact q'
          | false =>
            refine iteN rfl ?_
            walk_at "rd"
            exact q'
        | imp =>
          have sq : SqT K H a [.str "if", .int (j : Nat), .int (k : Nat)] := sq0
          clear sq0
          walk_at "rd"
          refine ⟨x, rfl, fun H1 a1 => ?_⟩
          have sq1 := SqT.adv a1 sq
          have q' := q H1 a1
          walk_at "rd"
          cases e1 : logicB x with
          | true =>
            refine iteY rfl ?_
            walk_at "rd"
            exact q'
          | false =>
            refine iteN rfl ?_
            walk_at "rd"
            exact q'
/-! ### keys_in -/
structure KinP (vs : List V) (H : Hp) (Q : VK) : Prop where
  ex : ∃ (x : Str) (sh rw_ : Addr) (ns : List Nd) (rs : List V) (rows : List Nat) (bx : Bool), vs = [.str x, .ref sh, .ref rw_] ∧ H sh = some (.lst rs) ∧ IsDs [] H (ns.map Nd.data) rs ∧ (H rw_ = some (.lst (nV rows)) ∨ Tp [] H rw_ (nV rows)) ∧ (∀ r ∈ rows, r < ns.length) ∧ okSheet bx ns ∧ ns.length ≤ 200000 ∧ rows.length ≤ 200000 ∧
    ∀ l H', H l = none → H' l = some (.lst (nVl (keysF x ns rows))) → Adv [] H H' → Q (.ref l) H'
def spKin : Sp := fun vs H Q _ => KinP vs H Q
theorem ok_keys_in (A : All K mg w) : FnOk P w K mg base CX0 4 A.keys_in.f A.keys_in.fd ["logic", "sheet", "rows"] spKin := by
  refine A.keys_in.F.ok sc_keys_in (fun vs H Q E h => ?_) (fun cdv Ar outer s H vs Q E hr h => ?_)
  · obtain ⟨x, sh, rw_, ns, rs, rows, bx, rfl, _⟩ := h.ex
    rfl
  · obtain ⟨x, sh, rw_, ns, rs, rows, bx, rfl, hsh, hds, hrw, hrows, ok, hz, hz2, q⟩ := h.ex
    refine ⟨_, (pss_one (ps_ret (pe_lc (own := [("row", 3)]) (g := (gName 3)) rfl sc_keys_in.nd (pi_list (pe_call (ok_rows_below A) (hr.mono (by omega)) rfl A.rows_below.m A.rows_below.F.kp A.rows_below.b .nil pass0 (pa_cons (pv 1) (pa_cons (pv 2) pa_nil)))) (blkOk_by (own := [("row", 3)]) (N := ["logic", "sheet", "rows", "row"]) (sc := defScope s_keys_in) (by decide +kernel)) (fun _ _ _ _ _ => pg_name (i := 3) sc_keys_in.nd rfl (Or.inl rfl)) (fun _ _ _ _ _ => pts_one (pt_val (pe_call (ok_is_key A) (hr.mono (by omega)) rfl A.is_key.m A.is_key.F.kp A.is_key.b .nil pass0 (pa_cons (pv 0) (pa_cons (pe_ix (ix_listK K rfl) (pv 1) (pv 3) (fun _ _ => rfl)) pa_nil))))) (fun _ _ _ _ _ => (pv 3))))), ?_⟩
    walk_at "rd"
    unfold tLc iList
    walk_at "rd"
    refine ⟨⟨sh, rw_, ns, rs, rows, bx, rfl, hsh, hds, hrw, hrows, ok, hz, hz2, fun l H1 nl hl1 a1 => ⟨l, rfl, ⟨_, SqL.of hl1⟩, fun D nDD => ?_⟩⟩⟩
    have bln := below_len ns rows
    refine lc_filtL (K := K) (a := l) (T := belowF ns rows) (fun k => V.int (k : Nat)) (fun k => keyB x (ns[k]?.getD .no)) nDD hl1 (by omega) ?_ ?_
    · intro k H2 acc R R0 hk a2 hD go go0
      have kl := (below_mem.mp hk).1
      have hn : ns[k]? = some ns[k] := List.getElem?_eq_getElem kl
      obtain ⟨v, hv, isv⟩ := hds.get (i := k) (d := (ns[k]).data) (by rw [List.getElem?_map, hn]; rfl)
      obtain ⟨b, rfl, hb⟩ := nd_is (isv.adv (a1.trans a2))
      have hsh2 := (a1.trans a2).same _ _ hsh
      rw [hn] at go go0
      refine ⟨rfl, ?_⟩
      walk_at "rd"
      refine ⟨⟨x, b, ns[k], rfl, hb, fun H3 a3 => ?_⟩⟩
      have hD3 := a3.same _ _ hD
      walk_at "rd"
      refine iteB (fun e => ?_) (fun e => ?_)
      · walk_at "rd"
        exact go e H3 hD3 (a2.trans a3)
      · exact go0 e H3 hD3 (a2.trans a3)
    · intro H2 a2 hD
      exact q D H2 (a1.free (by simp) nDD) hD (a1.trans a2)
end

set_option Elab.async false
set_option linter.all false
set_option maxRecDepth 100000
set_option maxHeartbeats 4000000
open PySem PySem.Spec PyProof.Rows L2 LL
open C8 (pss_cut)
section
variable [KW]
variable {P : Program} {w : World} {K : PySem.W.Frag} {mg : Str → Option Value} {base : Heap}
theorem rd_catM {K : PySem.W.Frag} {w : World} (W : KWOk K w) {M : List Addr} {H : Hp} {a b : Addr} {xs ys : List V} {Q : VK} (al : ∀ b ∈ M, H b ≠ none) (ha : Tp M H a xs) (hb : Tp M H b ys) (hl : xs.length + ys.length ≤ sizeLine) (q : ∀ r H', Tp M H' r (xs ++ ys) → Adv [] H H' → Q (.ref r) H') : rCatA K (.ref a) (.ref b) H Q := by
  refine ⟨a, b, xs, ys, rfl, rfl, ha.sq W, hb.sq W, hl, fun e => ?_, fun _ e => ?_, fun _ _ p np => ?_⟩
  · exact q b H (by rw [e]; exact hb) (Adv.refl _ _)
  · exact q a H (by rw [e, List.append_nil]; exact ha) (Adv.refl _ _)
  · exact q p _ (Tp.of upd_same (not_mem_new al np)) (Adv.new np)
/-- a claim as data -/
def clmD (ns : List Nd) (th le ri : List Nat) : PyData := .tuple [.list (ns.map Nd.data), .tuple (nD th), .tuple (nD le), .tuple (nD ri)]
theorem claimM_none {m : Int} {b : Bool} {d : PyData} (hm : 0 ≤ m) (h : claimM m b d = none) : ∃ ns th le ri, d = clmD ns th le ri ∧ okSheet b ns ∧ (ns.length : Int) ≤ m ∧ (∀ r ∈ th ++ le ++ ri, r < ns.length) := by
  cases e4 : tupN 4 d with
  | false => rw [four_not e4] at h; cases h
  | true =>
    obtain ⟨a, b', c, e, rfl⟩ := four_yes e4
    cases ew : wrongD m b a with
    | some i => rw [cw_sheet ew] at h; cases h
    | none =>
      rw [cw_next ew] at h
      obtain ⟨ns, rfl, ok, hl⟩ := wrongD_none hm ew
      have el : lenD (.list (ns.map Nd.data)) = ns.length := by show (ns.map Nd.data).length = ns.length; rw [List.length_map]
      rw [el] at h
      split at h
      · cases h
      · rename_i h1
        split at h
        · cases h
        · rename_i h2
          split at h
          · cases h
          · rename_i h3
            have h1' : rowsB (ns.length : Nat) b' = true := by
              cases e1 : rowsB (ns.length : Nat) b' with
              | true => rfl
              | false => exact absurd (by rw [e1]; rfl) h1
            have h2' : rowsB (ns.length : Nat) c = true := by simpa using h2
            have h3' : rowsB (ns.length : Nat) e = true := by simpa using h3
            obtain ⟨th, rfl, t1, _⟩ := rows_nat h1'
            obtain ⟨le, rfl, t2, _⟩ := rows_nat h2'
            obtain ⟨ri, rfl, t3, _⟩ := rows_nat h3'
            refine ⟨ns, th, le, ri, rfl, ok, hl, fun r hr => ?_⟩
            rcases List.mem_append.mp hr with hr | hr
            · rcases List.mem_append.mp hr with hr | hr
              · have := t1 r hr; omega
              · have := t2 r hr; omega
            · have := t3 r hr; omega
/-! ### rows_of -/
structure RofP (vs : List V) (H : Hp) (Q : VK) : Prop where
  ex : ∃ (M : List Addr) (v : V) (ns : List Nd) (th le ri : List Nat), vs = [v] ∧ (∀ b ∈ M, H b ≠ none) ∧ Is M H (clmD ns th le ri) v ∧ th.length + le.length + ri.length ≤ 1000000 ∧ ∀ t H', Tp M H' t (nVl (th ++ le ++ ri)) → Adv [] H H' → Q (.ref t) H'
def spRof : Sp := fun vs H Q _ => RofP vs H Q
theorem nVl_ln (l : List Nat) : (nVl l).length = l.length := by unfold nVl; rw [List.length_map]
theorem nVl_app (a b : List Nat) : nVl a ++ nVl b = nVl (a ++ b) := by unfold nVl; rw [List.map_append]
theorem ok_rows_of (A : All K mg w) : FnOk P w K mg base CX0 1 A.rows_of.f A.rows_of.fd ["claim"] spRof := by
  refine A.rows_of.F.ok sc_rows_of (fun vs H Q E h => ?_) (fun cdv Ar outer s H vs Q E hr h => ?_)
  · obtain ⟨M, v, ns, th, le, ri, rfl, _⟩ := h.ex
    rfl
  · obtain ⟨M, v, ns, th, le, ri, rfl, al, hv, hz, q⟩ := h.ex
    refine ⟨_, (pss_one (ps_ret (pe_op op_catA (pe_op op_catA (pe_ix ix_tup (pv 0) pe_int (fun _ _ => rfl)) (pe_ix ix_tup (pv 0) pe_int (fun _ _ => rfl))) (pe_ix ix_tup (pv 0) pe_int (fun _ _ => rfl))))), ?_⟩
    obtain ⟨t, us, rfl, ht, hs⟩ := hv.tupE
    obtain ⟨va, vb, vc, vd, rfl, ha, hb, hc, hd⟩ := IsDs.four hs
    obtain ⟨tb, xs, rfl, hb, sb⟩ := hb.tupE
    obtain ⟨tc, ys, rfl, hc, sc⟩ := hc.tupE
    obtain ⟨td, zs, rfl, hd, sd⟩ := hd.tupE
    have e1 : xs = nVl th := nD_of sb
    have e2 : ys = nVl le := nD_of sc
    have e3 : zs = nVl ri := nD_of sd
    subst e1 e2 e3
    have sq := ht.sq A.W
    walk_at "rd"
    refine rd_catM A.W al hb hc (by rw [sizeLine_eq, nVl_ln, nVl_ln]; omega) fun r H1 hr1 a1 => ?_
    have sq1 := SqT.adv a1 sq
    rw [nVl_app] at hr1
    walk_at "rd"
    refine rd_catM A.W (alloc_adv al a1 (by simp)) hr1 (hd.adv a1.nil) (by rw [sizeLine_eq, nVl_ln, nVl_ln, List.length_append]; omega) fun r2 H2 hr2 a2 => ?_
    rw [nVl_app] at hr2
    exact q r2 H2 hr2 (a1.trans a2)
/-! ### keys_of -/
structure KofP (cL cS cC : Addr) (vs : List V) (H : Hp) (Q : VK) (E : XK) : Prop where
  ex : ∃ (M : List Addr) (x : Str) (v : V) (d : PyData), vs = [.str x, v] ∧ (∀ b ∈ M, H b ≠ none) ∧ Is M H d v ∧ sz d ≤ 200000 ∧ (logicOk x = false → E (.ref cL) none H) ∧ (logicOk x = true →
    (∀ i, claimM 60 (logicB x) d = cw "BadSheet" (.int i) → ∀ dd H', Adv [] H H' → H dd = none → H' dd = some (.xd [("row", .int i)]) → E (.ref cS) (some dd) H') ∧
    (∀ z, claimM 60 (logicB x) d = cw "BadClaim" (.str z) → ∀ dd H', Adv [] H H' → H dd = none → H' dd = some (.xd [("word", .str z)]) → E (.ref cC) (some dd) H') ∧
    (claimM 60 (logicB x) d = none → ∀ ns th le ri, d = clmD ns th le ri → ∀ y H', Is M H' (.tuple (nD (keysF x ns (th ++ le ++ ri)))) y → Adv [] H H' → Q y H'))
def spKof (cL cS cC : Addr) : Sp := fun vs H Q E => KofP cL cS cC vs H Q E
theorem ok_keys_of (A : All K mg w) (Z : Exs K mg) (ZL : Er_BadLogic Z) (Z1 : Er_BadSheet Z) (Z3 : Er_BadClaim Z) : FnOk P w K mg base (L2N.CX P w) 8 A.keys_of.f A.keys_of.fd ["logic", "claim"] (spKof (Z.cA "BadLogic") (Z.cA "BadSheet") (Z.cA "BadClaim")) := by
  refine okXN A.keys_of.F sc_keys_of (fun vs H Q E h => ?_) (fun cdv Ar outer s H vs Q E hr h => ?_)
  · obtain ⟨M, x, v, d, rfl, _⟩ := h.ex
    rfl
  · obtain ⟨M, x, v, d, rfl, al, hv, hz, qL, q0⟩ := h.ex
    refine ⟨_, (pss_cons (ps_expr (pe_callS (ok_check_claim A Z ZL Z1 Z3) (hr.mono (by omega)) rfl A.check_claim.m A.check_claim.F.kp A.check_claim.b (L2N.passAt (L2N.takes_of rfl rfl rfl rfl)) (pa_cons (pv 0) (pa_cons (pv 1) pa_nil))))
  (pss_one (ps_ret (pe_callTy call_tuple_of (by rfl) A.T.tuple (by decide +kernel) (pa_cons (pe_call (ok_keys_in A) (hr.mono (by omega)) rfl A.keys_in.m A.keys_in.F.kp A.keys_in.b .nil pass0 (pa_cons (pv 0) (pa_cons (pe_ix ix_tup (pv 1) pe_int (fun _ _ => rfl)) (pa_cons (pe_call (ok_rows_of A) (hr.mono (by omega)) rfl A.rows_of.m A.rows_of.F.kp A.rows_of.b .nil pass0 (pa_cons (pv 1) pa_nil)) pa_nil)))) pa_nil))))), ?_⟩
    walk_at "rd"
    refine ⟨x, v, rfl, ⟨d, hv.less (by simp), by omega, qL, fun hx => ⟨(q0 hx).1, (q0 hx).2.1, fun e H1 a1 => ?_⟩⟩⟩
    have q3 := (q0 hx).2.2 e
    obtain ⟨ns, th, le, ri, rfl, ok, hl, hrows⟩ := claimM_none (by decide) e
    have q3 := q3 ns th le ri rfl
    obtain ⟨y1, y2, y3⟩ : th.length ≤ 200000 ∧ le.length ≤ 200000 ∧ ri.length ≤ 200000 := by
      have e : ∀ l : List Nat, szL (nD l) = l.length := fun l => by
        induction l with
        | nil => exact szL_nil
        | cons r rs ih =>
          show szL (PyData.int (r : Nat) :: nD rs) = _
          rw [szL_cons, ih, List.length_cons]
          unfold sz
          omega
      unfold clmD at hz
      rw [sz_tup, szL_cons, szL_cons, szL_cons, szL_cons, szL_nil, sz_tup, sz_tup, sz_tup, e, e, e] at hz
      omega
    have hzz : (th ++ le ++ ri).length ≤ 200000 := by
      have e : ∀ l : List Nat, szL (nD l) = l.length := fun l => by
        induction l with
        | nil => exact szL_nil
        | cons r rs ih =>
          show szL (PyData.int (r : Nat) :: nD rs) = _
          rw [szL_cons, ih, List.length_cons]
          unfold sz
          omega
      unfold clmD at hz
      rw [sz_tup, szL_cons, szL_cons, szL_cons, szL_cons, szL_nil, sz_tup, sz_tup, sz_tup, e, e, e] at hz
      rw [List.length_append, List.length_append]
      omega
    have hv1 := hv.adv a1.nil
    obtain ⟨t, us, rfl, ht, hs⟩ := hv1.tupE
    obtain ⟨va, vb, vc, vd, rfl, ha, hb, hc, hd⟩ := IsDs.four hs
    obtain ⟨sh, rs, rfl, _, hsh, hds⟩ := ha.lstE
    have al1 := alloc_adv al a1 (by simp)
    have sq := ht.sq A.W
    walk_at "rd"
    refine ⟨⟨M, .ref t, ns, th, le, ri, rfl, al1, hv1, by omega, fun t2 H2 ht2 a2 => ?_⟩⟩
    walk_at "rd"
    refine ⟨⟨x, sh, t2, ns, rs, th ++ le ++ ri, logicB x, rfl, a2.same _ _ hsh, (hds.adv a2.nil).less (by simp), .inr (ht2.less (by simp)), hrows, ok, by omega, hzz, fun l H3 nl hl3 a3 => ?_⟩⟩
    have a13 := (a1.trans a2).trans a3
    refine ⟨l, _, rfl, .inl ⟨SqL.of hl3, fun p np => ?_⟩⟩
    refine q3 _ _ ?_ (a13.newT np)
    exact Is.tup upd_same (not_mem_new (alloc_adv al a13 (by simp)) np) (nD_is _)
end

set_option Elab.async false
set_option linter.all false
set_option maxRecDepth 100000
set_option maxHeartbeats 4000000
open PySem PySem.Spec PyProof.Rows L2 LL
open C8 (pss_cut)
section
variable [KW]
variable {P : Program} {w : World} {K : PySem.W.Frag} {mg : Str → Option Value} {base : Heap}
/-! ### _law_keys -/
theorem logic5 {x : Str} (h : logicOk x = true) : x = "classical" ∨ x = "intuit" ∨ x = "k" ∨ x = "s4" ∨ x = "gl" := by
  unfold logicOk at h
  simp only [Bool.or_eq_true, decide_eq_true_eq] at h
  rcases h with (((h | h) | h) | h) | h
  · exact .inl h
  · exact .inr (.inl h)
  · exact .inr (.inr (.inl h))
  · exact .inr (.inr (.inr (.inl h)))
  · exact .inr (.inr (.inr (.inr h)))
def wdN : Nd → Str
  | .letter _ => "letter"
  | .no => "no"
  | .box _ => "box"
  | .bin o _ _ => o.str
theorem wdN_at (n : Nd) : (n.keys.map kV)[0]? = some (.str (wdN n)) := by cases n <;> rfl
def kwK (t1 t2 : Addr) : List (Key × V) := [((Sum.inr "classical" : Key), V.ref t1), (Sum.inr "intuit", V.ref t2)]
theorem kwK_c (t1 t2 : Addr) : valV (mergeK [] (kwK t1 t2)) (Sum.inr "classical") = some (.ref t1) := by kernel_rfl
theorem kwK_i (t1 t2 : Addr) : valV (mergeK [] (kwK t1 t2)) (Sum.inr "intuit") = some (.ref t2) := by kernel_rfl
theorem kwK_k (t1 t2 : Addr) : valV (mergeK [] (kwK t1 t2)) (Sum.inr "k") = none := by kernel_rfl
theorem kwK_s (t1 t2 : Addr) : valV (mergeK [] (kwK t1 t2)) (Sum.inr "s4") = none := by kernel_rfl
theorem kwK_g (t1 t2 : Addr) : valV (mergeK [] (kwK t1 t2)) (Sum.inr "gl") = none := by kernel_rfl
/-- the words of keys -/
def kwF (x : Str) : List Str := if x = "classical" then ["letter"] else if x = "intuit" then ["letter", "if"] else ["letter", "box"]
theorem kw_flat (x : Str) : ((kwF x).map V.str).all flatV = true := by
  unfold kwF
  split
  · rfl
  · split <;> rfl
theorem kw_in {x : Str} (h : logicOk x = true) (n : Nd) : inV (.str (wdN n)) ((kwF x).map V.str) = keyB x n := by
  rcases logic5 h with rfl | rfl | rfl | rfl | rfl <;> cases n with
  | letter i => kernel_rfl
  | no => kernel_rfl
  | box j => kernel_rfl
  | bin o j k => cases o <;> kernel_rfl
structure LkyP (vs : List V) (H : Hp) (Q : VK) : Prop where
  ex : ∃ (x : Str) (sh rw_ : Addr) (ns : List Nd) (rs : List V) (rows : List Nat) (bx : Bool), vs = [.str x, .ref sh, .ref rw_] ∧ logicOk x = true ∧ H sh = some (.lst rs) ∧ IsDs [] H (ns.map Nd.data) rs ∧ (H rw_ = some (.lst (nV rows)) ∨ Tp [] H rw_ (nV rows)) ∧ (∀ r ∈ rows, r < ns.length) ∧ okSheet bx ns ∧ ns.length ≤ 200000 ∧ rows.length ≤ 200000 ∧
    ∀ l H', H l = none → H' l = some (.lst (nVl (keysF x ns rows))) → Adv [] H H' → Q (.ref l) H'
def spLky : Sp := fun vs H Q _ => LkyP vs H Q
theorem ok_law_keys (A : All K mg w) : FnOk P w K mg base CX0 4 A.law_keys.f A.law_keys.fd ["logic", "sheet", "rows"] spLky := by
  refine A.law_keys.F.ok sc_law_keys (fun vs H Q E h => ?_) (fun cdv Ar outer s H vs Q E hr h => ?_)
  · obtain ⟨x, sh, rw_, ns, rs, rows, bx, rfl, _⟩ := h.ex
    rfl
  · obtain ⟨x, sh, rw_, ns, rs, rows, bx, rfl, hx, hsh, hds, hrw, hrows, ok, hz, hz2, q⟩ := h.ex
    refine ⟨_, (pss_cut (ps_set (i := 3) sc_law_keys.nd rfl (Or.inr rfl) (pe_dget2 (hu_of hr) (pe_disp (pps_cons pe_str (pe_tup (pa_cons pe_str pa_nil)) (pps_cons pe_str (pe_tup (pa_cons pe_str (pa_cons pe_str pa_nil))) pps_nil)) (by rfl) (by rfl) (fun z => by cases z) (by decide)) (pv 0) (pe_tup (pa_cons pe_str (pa_cons pe_str pa_nil))) ⟨rfl, rfl, rfl, rfl⟩))
  (pss_one (ps_ret (pe_lc (own := [("at", 4)]) (g := (gName 4)) rfl sc_law_keys.nd (pi_list (pe_call (ok_law_below A) (hr.mono (by omega)) rfl A.law_below.m A.law_below.F.kp A.law_below.b .nil pass0 (pa_cons (pv 1) (pa_cons (pv 2) pa_nil)))) (blkOk_by (own := [("at", 4)]) (N := ["logic", "sheet", "rows", "words", "at"]) (sc := defScope s_law_keys) (by decide +kernel)) (fun _ _ _ _ _ => pg_name (i := 4) sc_law_keys.nd rfl (Or.inl rfl)) (fun _ _ _ _ _ => pts_one (pt_cmpR (op_inK K rfl) (pe_ix (ix_tupK K rfl) (pe_ix (ix_listK K rfl) (pv 1) (pv 4) (fun _ _ => rfl)) pe_int (fun _ _ => rfl)) (pv 3) rfl)) (fun _ _ _ _ _ => (pv 4)))))), ?_⟩
    refine ⟨fun σ' H' => ∃ W, σ' = [some (.str x), some (.ref sh), some (.ref rw_), some (.ref W), none] ∧ H' W = some (.tup ((kwF x).map V.str)) ∧ Adv [] H H', ?_, ?_⟩
    · walk_at "rd"
      intro p np
      have hp : (upd H p (.dK [])) p = some (.dK []) := upd_same
      have a2 : Adv [] H (upd H p (.dK [])) := Adv.new np
      generalize (upd H p (.dK [])) = H2 at hp a2
      refine ⟨by show 1 ≤ sizeLine; decide, fun t1 m1 => ⟨by show 2 ≤ sizeLine; decide, fun t2 m2 => ?_⟩⟩
      show _ ∧ ∃ kvs : List (Key × V), _ ∧ _ ∧ _
      have d1 := Adv.new (M := []) (o := .tup [.str "letter"]) m1
      have d2 := Adv.new (M := []) (o := .tup [.str "letter", .str "if"]) m2
      have h1 := d2.same _ _ (upd_same (H := H2) (a := t1) (o := .tup [.str "letter"]))
      have h2 := upd_same (H := upd H2 t1 (.tup [.str "letter"])) (a := t2) (o := .tup [.str "letter", .str "if"])
      have d14 := d1.trans d2
      have hp6 := d14.same _ _ hp
      have a6 := a2.trans d14
      generalize (upd (upd H2 t1 (.tup [.str "letter"])) t2 (.tup [.str "letter", .str "if"])) = H6 at h1 h2 hp6 a6
      have dp : Adv [] H (upd H6 p (.dK (mergeK [] (kwK t1 t2)))) := a6.mut np
      have np_ : ∀ {t : Addr} {xs : List V}, H6 t = some (.tup xs) → t ≠ p := fun h z => by rw [z, hp6] at h; cases h
      refine ⟨hp6, kwK t1 t2, rfl, by show 2 ≤ 15; decide, p, rfl, .inl ⟨_, .inl upd_same⟩, _, rfl, by show 2 ≤ sizeLine; decide, fun t5 m5 => ⟨_, DGet.k (k := Sum.inr x) ((Adv.new (M := []) m5).same _ _ upd_same), ?_⟩⟩
      have a7 := dp.newT (o := .tup [.str "letter", .str "box"]) m5
      have g1 := (Adv.new (M := []) (o := .tup [.str "letter", .str "box"]) m5).same _ _ ((upd_ne (o := .dK (mergeK [] (kwK t1 t2))) (np_ h1)).trans h1)
      have g2 := (Adv.new (M := []) (o := .tup [.str "letter", .str "box"]) m5).same _ _ ((upd_ne (o := .dK (mergeK [] (kwK t1 t2))) (np_ h2)).trans h2)
      rcases logic5 hx with rfl | rfl | rfl | rfl | rfl
      · rw [kwK_c]; exact ⟨t1, rfl, g1, a7⟩
      · rw [kwK_i]; exact ⟨t2, rfl, g2, a7⟩
      · rw [kwK_k]; exact ⟨t5, rfl, upd_same, a7⟩
      · rw [kwK_s]; exact ⟨t5, rfl, upd_same, a7⟩
      · rw [kwK_g]; exact ⟨t5, rfl, upd_same, a7⟩
    · rintro σ' H1 ⟨W, rfl, hW, a1⟩
      have hsh1 := a1.same _ _ hsh
      walk_at "rd"
      unfold tLc iList
      walk_at "rd"
      refine ⟨⟨sh, rw_, ns, rs, rows, bx, rfl, hsh1, hds.adv a1, hrw.imp (a1.same _ _) (fun h => h.adv a1), hrows, ok, hz, hz2, fun l H2 nl hl1 a2 => ⟨l, rfl, ⟨_, SqL.of hl1⟩, fun D nDD => ?_⟩⟩⟩
      have bln := below_len ns rows
      have a12 := a1.trans a2
      have hW2 := a2.same _ _ hW
      refine lc_filtL (K := K) (a := l) (T := belowF ns rows) (fun k => V.int (k : Nat)) (fun k => keyB x (ns[k]?.getD .no)) nDD hl1 (by omega) ?_ ?_
      · intro k H3 acc R R0 hk a3 hD go go0
        have kl := (below_mem.mp hk).1
        have hn : ns[k]? = some ns[k] := List.getElem?_eq_getElem kl
        obtain ⟨v, hv, isv⟩ := hds.get (i := k) (d := (ns[k]).data) (by rw [List.getElem?_map, hn]; rfl)
        obtain ⟨b, rfl, hb⟩ := nd_is (isv.adv (a12.trans a3))
        have sqb := hb.sq A.W
        have hsh3 := (a12.trans a3).same _ _ hsh
        have hW3 := a3.same _ _ hW2
        have ew := wdN_at ns[k]
        rw [hn] at go go0
        refine ⟨rfl, ?_⟩
        walk_at "rd"
        refine ⟨W, _, rfl, .inr (SqT.of hW3), rfl, kw_flat x, ?_⟩
        rw [if_neg (by decide), kw_in hx]
        walk_at "rd"
        refine iteB (fun e => ?_) (fun e => ?_)
        · walk_at "rd"
          exact go e H3 hD a3
        · exact go0 e H3 hD a3
      · intro H3 a3 hD
        exact q D H3 (a12.free (by simp) nDD) hD (a12.trans a3)
/-! ### _law_claim_keys -/
structure LckP (vs : List V) (H : Hp) (Q : VK) : Prop where
  ex : ∃ (x : Str) (v : V) (ns : List Nd) (th le ri : List Nat) (bx : Bool), vs = [.str x, v] ∧ logicOk x = true ∧ Is [] H (clmD ns th le ri) v ∧ (∀ r ∈ th ++ le ++ ri, r < ns.length) ∧ okSheet bx ns ∧ ns.length ≤ 200000 ∧ (th ++ le ++ ri).length ≤ 200000 ∧
    ∀ l H', H l = none → H' l = some (.lst (nVl (keysF x ns (th ++ le ++ ri)))) → Adv [] H H' → Q (.ref l) H'
def spLck : Sp := fun vs H Q _ => LckP vs H Q
theorem ok_law_claim_keys (A : All K mg w) : FnOk P w K mg base CX0 5 A.law_claim_keys.f A.law_claim_keys.fd ["logic", "claim"] spLck := by
  refine A.law_claim_keys.F.ok sc_law_claim_keys (fun vs H Q E h => ?_) (fun cdv Ar outer s H vs Q E hr h => ?_)
  · obtain ⟨x, v, ns, th, le, ri, bx, rfl, _⟩ := h.ex
    rfl
  · obtain ⟨x, v, ns, th, le, ri, bx, rfl, hx, hv, hrows, ok, hz, hz2, q⟩ := h.ex
    refine ⟨_, (pss_one (ps_ret (pe_call (ok_law_keys A) (hr.mono (by omega)) rfl A.law_keys.m A.law_keys.F.kp A.law_keys.b .nil pass0 (pa_cons (pv 0) (pa_cons (pe_ix ix_tup (pv 1) pe_int (fun _ _ => rfl)) (pa_cons (pe_op op_cat (pe_op op_cat (pe_callTy call_list_of (by rfl) A.T.list (by decide +kernel) (pa_cons (pe_ix ix_tup (pv 1) pe_int (fun _ _ => rfl)) pa_nil)) (pe_callTy call_list_of (by rfl) A.T.list (by decide +kernel) (pa_cons (pe_ix ix_tup (pv 1) pe_int (fun _ _ => rfl)) pa_nil))) (pe_callTy call_list_of (by rfl) A.T.list (by decide +kernel) (pa_cons (pe_ix ix_tup (pv 1) pe_int (fun _ _ => rfl)) pa_nil))) pa_nil)))))), ?_⟩
    obtain ⟨t, us, rfl, ht, hs⟩ := hv.tupE
    obtain ⟨va, vb, vc, vd, rfl, ha, hb, hc, hd⟩ := IsDs.four hs
    obtain ⟨sh, rs, rfl, _, hsh, hds⟩ := ha.lstE
    obtain ⟨tb, xs, rfl, hb, sb⟩ := hb.tupE
    obtain ⟨tc, ys, rfl, hc, sc⟩ := hc.tupE
    obtain ⟨td, zs, rfl, hd, sd⟩ := hd.tupE
    have e1 : xs = nVl th := nD_of sb
    have e2 : ys = nVl le := nD_of sc
    have e3 : zs = nVl ri := nD_of sd
    subst e1 e2 e3
    rw [List.length_append, List.length_append] at hz2
    have sq := ht.sq A.W
    walk_at "rd"
    refine ⟨tb, _, rfl, .inr (hb.sq A.W), fun p1 n1 => ?_⟩
    have a1 : Adv [] H (upd H p1 (.lst (nVl th))) := Adv.new n1
    have h1 : (upd H p1 (.lst (nVl th))) p1 = some (.lst (nVl th)) := upd_same
    generalize (upd H p1 (.lst (nVl th))) = H1 at a1 h1
    have sq1 := SqT.adv a1 sq
    walk_at "rd"
    refine ⟨tc, _, rfl, .inr ((hc.adv a1).sq A.W), fun p2 n2 => ?_⟩
    have a2 := a1.newT (o := .lst (nVl le)) n2
    have h2 : (upd H1 p2 (.lst (nVl le))) p2 = some (.lst (nVl le)) := upd_same
    have h1 := (Adv.new (M := []) (o := .lst (nVl le)) n2).same _ _ h1
    generalize (upd H1 p2 (.lst (nVl le))) = H2 at a2 h1 h2
    walk_at "rd"
    refine ⟨p1, p2, _, _, rfl, rfl, h1, h2, by rw [sizeLine_eq, nVl_ln, nVl_ln]; omega, fun p3 n3 => ?_⟩
    have a3 := a2.newT (o := .lst (nVl th ++ nVl le)) n3
    have h3 : (upd H2 p3 (.lst (nVl th ++ nVl le))) p3 = some (.lst (nVl th ++ nVl le)) := upd_same
    generalize (upd H2 p3 (.lst (nVl th ++ nVl le))) = H3 at a3 h3
    rw [nVl_app] at h3
    have sq3 := SqT.adv a3 sq
    walk_at "rd"
    refine ⟨td, _, rfl, .inr ((hd.adv a3).sq A.W), fun p4 n4 => ?_⟩
    have a4 := a3.newT (o := .lst (nVl ri)) n4
    have h4 : (upd H3 p4 (.lst (nVl ri))) p4 = some (.lst (nVl ri)) := upd_same
    have h3 := (Adv.new (M := []) (o := .lst (nVl ri)) n4).same _ _ h3
    generalize (upd H3 p4 (.lst (nVl ri))) = H4 at a4 h3 h4
    walk_at "rd"
    refine ⟨p3, p4, _, _, rfl, rfl, h3, h4, by rw [sizeLine_eq, nVl_ln, nVl_ln, List.length_append]; omega, fun p5 n5 => ?_⟩
    have a5 := a4.newT (o := .lst (nVl (th ++ le) ++ nVl ri)) n5
    have h5 : (upd H4 p5 (.lst (nVl (th ++ le) ++ nVl ri))) p5 = some (.lst (nVl (th ++ le) ++ nVl ri)) := upd_same
    generalize (upd H4 p5 (.lst (nVl (th ++ le) ++ nVl ri))) = H5 at a5 h5
    rw [nVl_app] at h5
    walk_at "rd"
    refine ⟨⟨x, sh, p5, ns, rs, th ++ le ++ ri, bx, rfl, hx, a5.same _ _ hsh, hds.adv a5, .inl h5, hrows, ok, hz, by rw [List.length_append, List.length_append]; omega, fun l H6 nl hl a6 => ?_⟩⟩
    exact q l H6 (a5.free (by simp) nl) hl (a5.trans a6)
end

set_option Elab.async false
set_option linter.all false
set_option maxRecDepth 100000
set_option maxHeartbeats 4000000
open PySem PySem.Spec PyProof.Rows L2 LL
open C8 (pss_cut)
section
variable [KW]
variable {P : Program} {w : World} {K : PySem.W.Frag} {mg : Str → Option Value} {base : Heap}
/-! ### _law_some -/
structure SomeP (vs : List V) (H : Hp) (Q : VK) : Prop where
  ex : ∃ (M : List Addr) (s l : Addr) (rows : List Nat) (n : Int), vs = [.ref s, .ref l, .int n] ∧ StrAt M H s ∧ H l = some (.lst (nVl rows)) ∧ rows.length ≤ 1000000 ∧
    ∀ D rows' H', H D = none → H' D = some (.lst (nVl rows')) → (rows').Sublist rows → StrAt M H' s → Adv [s] H H' → Q (.ref D) H'
def spSome : Sp := fun vs H Q _ => SomeP vs H Q
theorem str_nl {M : List Addr} {H : Hp} {s l : Addr} {rows : List Nat} (hst : StrAt M H s) (hl : H l = some (.lst (nVl rows))) : l ≠ s := fun z => by
  obtain ⟨li, ns, c, k, h1, _⟩ := hst
  rw [z, h1] at hl
  injection hl with hl
  injection hl with hl
  unfold nVl at hl
  cases rows with
  | nil => cases hl
  | cons r rows => rw [List.map_cons] at hl; injection hl with hl; cases hl
theorem ok_law_some (A : All K mg w) : FnOk P w K mg base CX0 2 A.law_some.f A.law_some.fd ["stream", "rows", "share"] spSome := by
  refine A.law_some.F.ok sc_law_some (fun vs H Q E h => ?_) (fun cdv Ar outer s H vs Q E hr h => ?_)
  · obtain ⟨M, st, l, rows, n, rfl, _⟩ := h.ex
    rfl
  · obtain ⟨M, st, l, rows, n, rfl, hst, hl, hz, q⟩ := h.ex
    refine ⟨_, (pss_one (ps_ret (pe_lc (own := [("row", 3)]) (g := (gName 3)) rfl sc_law_some.nd (pi_list (pv 1)) (blkOk_by (own := [("row", 3)]) (N := ["stream", "rows", "share", "row"]) (sc := defScope s_law_some) (by decide +kernel)) (fun _ _ _ _ _ => pg_name (i := 3) sc_law_some.nd rfl (Or.inl rfl)) (fun _ _ _ _ _ => pts_one (pt_cmpR op_lt (pe_call (ok_law_next A) (hr.mono (by omega)) rfl A.law_next.m A.law_next.F.kp A.law_next.b .nil pass0 (pa_cons (pv 0) (pa_cons pe_int pa_nil))) (pv 2) (nomark _))) (fun _ _ _ _ _ => (pv 3))))), ?_⟩
    have sl : l ≠ st := str_nl hst hl
    walk_at "rd"
    refine ⟨_, rfl, l, rfl, ⟨_, SqL.of hl⟩, fun D nD => ?_⟩
    have Ds : st ≠ D := fun z => hst.here (by rw [z]; exact nD)
    refine lc_list (K := K) (a := l) (xs := nVl rows) (fun i H' => ∃ rows', H' D = some (.lst (nVl rows')) ∧ (rows').Sublist (rows.take i) ∧ StrAt (D :: M) H' st ∧ Adv [st] H H' ∧ H' l = some (.lst (nVl rows)))
      ⟨[], upd_same, by simp, (hst.fresh nD).same (Adv.new nD), Adv.nil (Adv.new nD), (Adv.new (M := []) nD).same _ _ hl⟩ (fun i H' _ p => ?_) (fun i x H' hx p => ?_) (fun H' p => ?_)
    · obtain ⟨r', _, _, _, _, h⟩ := p
      exact SqL.of h
    · obtain ⟨r', hD, hs, hst', a', hl'⟩ := p
      obtain ⟨k, hk, rfl⟩ := nVl_gt hx
      have et : rows.take (i + 1) = rows.take i ++ [k] := by rw [List.take_succ, hk]; rfl
      have lD : l ≠ D := ne_of_none hl nD
      refine ⟨rfl, _, rfl, st, 8, D :: M, rfl, hst', by decide, by decide, fun t H2 t0 t1 hs2 a2 => ?_⟩
      refine ⟨_, rfl, t, n, rfl, rfl, _, rfl, ?_⟩
      have hD2 := a2 _ _ (notin1 Ds.symm) hD
      have hl2 := a2 _ _ (notin1 sl) hl'
      have len1 := hs.length_le
      rw [List.length_take] at len1
      refine iteB (fun e => ?_) (fun e => ?_)
      · refine ⟨_, rfl, _, hD2, by rw [nVl_ln, sizeLine_eq]; omega, r' ++ [k], ?_, ?_, hs2.adv (N := [D]) (Adv.set (by simp)) (notin1 Ds) (by simp), (a'.trans a2).mut nD, by rw [upd_ne lD]; exact hl2⟩
        · rw [upd_same]
          unfold nVl
          rw [List.map_append]
          rfl
        · rw [et]
          exact hs.append (List.Sublist.refl _)
      · exact ⟨r', hD2, by rw [et]; exact hs.trans (List.sublist_append_left _ _), hs2, a'.trans a2, hl2⟩
    · obtain ⟨r', hD, hs, hst', a', hl'⟩ := p
      have e : rows.take (nVl rows).length = rows := by rw [nVl_ln, List.take_length]
      rw [e] at hs
      exact q D r' H' nD hD hs (hst'.less (by simp +contextual)) a'
/-! ### _law_is_rows -/
theorem cnt_pos {n : Nat} (c : Nat → Bool) (ys : Nat → V) : decide (((((List.range n).filter c).map ys).length : Nat) > (0 : Int)) = !((List.range n).all fun i => !c i) := by
  have h := filt0 (n := n) c ys
  cases e : (List.range n).all fun i => !c i with
  | true =>
    rw [e] at h
    have := V.int.inj (of_decide_eq_true h)
    simp only [Bool.not_true, decide_eq_false_iff_not]
    omega
  | false =>
    rw [e] at h
    have := of_decide_eq_false h
    simp only [Bool.not_false, decide_eq_true_eq]
    have h2 : ((((List.range n).filter c).map ys).length : Int) ≠ 0 := fun z => this (by rw [z])
    omega
theorem all_range (ds : List PyData) (f : PyData → Bool) : ((List.range ds.length).all fun i => f (ds.getD i .none)) = ds.all f := by
  rw [Bool.eq_iff_iff, List.all_eq_true, List.all_eq_true]
  constructor
  · intro h d hd
    obtain ⟨i, hi, rfl⟩ := List.getElem_of_mem hd
    have := h i (List.mem_range.mpr hi)
    simpa [List.getD_eq_getElem?_getD, hi] using this
  · intro h i hi
    have hi := List.mem_range.mp hi
    have := h ds[i] (List.getElem_mem hi)
    simpa [List.getD_eq_getElem?_getD, hi] using this
theorem ok_law_is_rows (A : All K mg w) : FnOk P w K mg base CX0 2 A.law_is_rows.f A.law_is_rows.fd ["value", "many"] spAreRows := by
  refine A.law_is_rows.F.ok sc_law_is_rows (fun vs H Q E h => ?_) (fun cdv Ar outer s H vs Q E hr h => ?_)
  · obtain ⟨v, d, n, rfl, _⟩ := h
    rfl
  · obtain ⟨v, d, n, rfl, hv, hz, q⟩ := h
    refine ⟨_, (pss_cons (ps_if (PW.pt (pw_or (pt_not (pt_val (pe_callB call_isi (by rfl) A.T.isinstance (by decide +kernel) (pa_cons (pv 0) (pa_cons (pe_bltn (v := .ty "tuple") (by rfl) A.T.tuple (by decide +kernel) rfl) pa_nil))))) (pw_or1 (pt_cmpR op_gt (pe_callB call_len_seq (by rfl) A.T.len PySem.boot_len (pa_cons (pe_lc (own := [("row", 2)]) (g := (gName 2)) rfl sc_law_is_rows.nd (pi_tup (pv 0)) (blkOk_by (own := [("row", 2)]) (N := ["value", "many", "row", "at"]) (sc := defScope s_law_is_rows) (by decide +kernel)) (fun _ _ _ _ _ => pg_name (i := 2) sc_law_is_rows.nd rfl (Or.inl rfl)) (fun _ _ _ _ _ => pts_one (pt_not (pt_val (pe_call (ok_law_number A) (hr.mono (by omega)) rfl A.law_number.m A.law_number.F.kp A.law_number.b .nil pass0 (pa_cons (pv 2) (pa_cons pe_int (pa_cons (pe_op op_sub (pv 1) pe_int) pa_nil))))))) (fun _ _ _ _ _ => (pv 2))) pa_nil)) pe_int (nomark _)))))
    (pss_one (ps_ret pe_bl))
    pss_nil)
  (pss_one (ps_ret (pe_cmpR op_eq (pe_callB call_len_seq (by rfl) A.T.len PySem.boot_len (pa_cons (pe_lc (own := [("at", 3)]) (g := (gName 3)) rfl sc_law_is_rows.nd (pi_range2 rfl A.T.range (pa_cons pe_int (pa_cons (pe_callB call_len_seq (by rfl) A.T.len PySem.boot_len (pa_cons (pv 0) pa_nil)) pa_nil))) (blkOk_by (own := [("at", 3)]) (N := ["value", "many", "row", "at"]) (sc := defScope s_law_is_rows) (by decide +kernel)) (fun _ _ _ _ _ => pg_name (i := 3) sc_law_is_rows.nd rfl (Or.inl rfl)) (fun _ _ _ _ _ => pts_one (pt_cmpR op_ge (pe_ix (ix_any K rfl) (pv 0) (pe_op op_sub (pv 3) pe_int) (fun _ _ => rfl)) (pe_ix (ix_any K rfl) (pv 0) (pv 3) (fun _ _ => rfl)) (nomark _))) (fun _ _ _ _ _ => (pv 3))) pa_nil)) pe_int (nomark _))))), ?_⟩
    refine ⟨_, rfl, _, _, _, _, _, rfl, .ty _, hv.ty A.W, k_tuple d, _, rfl, ?_⟩
    by_cases ht : ∃ ds, d = .tuple ds
    · obtain ⟨ds, rfl⟩ := ht
      have hz := hz ds rfl
      obtain ⟨a, vs, rfl, htp, hs⟩ := hv.tupE
      have hl := hs.len
      refine iteN (by simp [kitD, tyN]) ?_
      refine ⟨_, rfl, a, rfl, ⟨_, htp.sq A.W⟩, fun D nD => ?_⟩
      refine lc_filtT (K := K) (a := a) (xs := vs) (fun i => vs.getD i .non) (fun i => !isNum 0 (n - 1) (ds.getD i .none)) nD (htp.sq A.W) (by omega) ?_ ?_
      · intro i x H' acc R R0 hx aH hD k k0
        obtain ⟨dx, hdx, hisx⟩ := hs.getV hx
        have ed : ds.getD i .none = dx := by rw [List.getD_eq_getElem?_getD, hdx]; rfl
        have ex : vs.getD i .non = x := by rw [List.getD_eq_getElem?_getD, hx]; rfl
        refine ⟨rfl, x, rfl, _, rfl, n, 1, rfl, rfl, x, dx, 0, n - 1, rfl, (hisx.adv aH), _, rfl, ?_⟩
        rw [ed] at k k0
        refine iteB (fun e1 => ?_) (fun e1 => k0 e1 H' hD aH)
        refine ⟨x, rfl, ?_⟩
        have k' := k e1 H' hD aH
        rw [ex] at k'
        exact k'
      · intro H' aH hD
        have sq := SqT.adv aH (htp.sq A.W)
        walk_at "rd"
        rw [cnt_pos]
        have e : ((List.range vs.length).all fun i => !(!isNum 0 (n - 1) (ds.getD i .none))) = ds.all (isNum 0 (n - 1)) := by
          rw [hl]
          simp only [Bool.not_not]
          exact all_range ds _
        rw [e]
        walk_at "rd"
        refine iteB (fun e1 => ?_) (fun e1 => ?_)
        · have q' := q H' aH
          have e2 : rowsB n (.tuple ds) = false := by
            show (ds.all (isNum 0 (n - 1)) && _) = false
            have : ds.all (isNum 0 (n - 1)) = false := by simpa using e1
            rw [this, Bool.false_and]
          rw [e2] at q'
          exact q'
        · have e1 : ds.all (isNum 0 (n - 1)) = true := by simpa using e1
          obtain ⟨rows, e0, hr⟩ := any_rows (d := .tuple ds) e1
          injection e0 with e0
          subst e0
          cases (nD_of hs)
          have q' := q
          rw [rowsB_ris (show anyB n (.tuple (LL.nD rows)) = true from e1)] at q'
          have hl : (nVl rows).length = rows.length := nVl_ln rows
          have hz : rows.length ≤ 1000000 := by rw [← hl, hs.len]; exact hz
          have at_ : ∀ (j : Nat) (i : Int), j < rows.length → i = (j : Nat) → atI (nVl rows) i = some (.int (rows.getD j 0 : Nat)) := fun j i hj e => by
            rw [e]
            refine atI_nat (j := j) ?_
            unfold nVl
            simp [hj]
          walk_at "rd"
          refine ⟨_, rfl, a, _, rfl, .inr sq, 1, _, rfl, ⟨by decide, by decide, by omega, by rw [hl]; omega⟩, fun D2 nD2 => ?_⟩
          have hn : (((nVl rows).length : Nat) - 1 : Int).toNat = rows.length - 1 := by rw [hl]; omega
          rw [hn]
          refine lc_filtRl (fun i => V.int (1 + (i : Nat))) (fun i => decide (((rows.getD (i + 1) 0 : Nat) : Int) ≤ (rows.getD i 0 : Nat))) nD2 (by omega) ?_ ?_
          · intro i H2 acc R R0 hi a2 hD2 k k0
            have sq' := SqT.adv a2 sq
            refine ⟨rfl, _, rfl, _, rfl, 1 + (i : Int), 1, rfl, rfl, .inr ⟨a, _, _, _, rfl, rfl, sq', at_ i _ (by omega) (by omega), _, rfl, _, rfl, .inr ⟨a, _, _, _, rfl, rfl, sq', at_ (i + 1) _ (by omega) (by omega), _, _, rfl, rfl, _, rfl, ?_⟩⟩⟩
            exact iteB (fun e => ⟨_, rfl, k e H2 hD2 a2⟩) (fun e => k0 e H2 hD2 a2)
          · intro H2 a2 hD2
            walk_at "rd"
            rw [filt0]
            have e3 : ((List.range (rows.length - 1)).all fun i => !decide (((rows.getD (i + 1) 0 : Nat) : Int) ≤ (rows.getD i 0 : Nat))) = risB (rows.map fun r => ((r : Nat) : Int)) := by
              unfold risB
              rw [List.length_map]
              have gd : ∀ j : Nat, (rows.map fun r => ((r : Nat) : Int)).getD j 0 = ((rows.getD j 0 : Nat) : Int) := fun j => by
                rw [List.getD_eq_getElem?_getD, List.getD_eq_getElem?_getD, List.getElem?_map]
                cases rows[j]? <;> rfl
              congr 1
              funext i
              rw [gd, gd, ← decide_not]
              congr 1
              exact propext Int.not_le
            rw [e3]
            exact q' H2 (aH.trans a2)
    · refine iteY (by rw [not_tup ht]; rfl) (iteY rfl ?_)
      have q' := q H (Adv.refl _ _)
      cases d with
      | tuple ds => exact absurd ⟨ds, rfl⟩ ht
      | _ => exact q'
/-! ### _law_raw -/
structure Rw (M : List Addr) (H : Hp) (s S T : Addr) (bx : Bool) (ns : List Nd) : Prop where
  str : StrAt M H s
  ms : s ∈ M
  s0 : S ≠ s
  s1 : T ≠ s
  B : BkN M H S T ns
  ok : okSheet bx ns
theorem Rw.same {M : List Addr} {H H' : Hp} {s S T : Addr} {bx : Bool} {ns : List Nd} (x : Rw M H s S T bx ns) (a : Adv [] H H') : Rw M H' s S T bx ns := ⟨x.str.same a, x.ms, x.s0, x.s1, x.B.same a, x.ok⟩
theorem Rw.next {M : List Addr} {H H' : Hp} {s S T : Addr} {bx : Bool} {ns : List Nd} (x : Rw M H s S T bx ns) (a : Adv [s] H H') (hs : StrAt M H' s) : Rw M H' s S T bx ns :=
  ⟨hs, x.ms, x.s0, x.s1, x.B.adv a (notin1 x.s0) (notin1 x.s1) (by simp [x.ms]) (by simpa using hs.here), x.ok⟩
structure RawP (vs : List V) (H : Hp) (Q : VK) : Prop where
  ex : ∃ (M : List Addr) (s : Addr) (many : Nat) (bx : Bool), vs = [.ref s, .int (many : Nat), .bl bx] ∧ StrAt M H s ∧ s ∈ M ∧ (∀ b ∈ M, H b ≠ none) ∧ many ≤ 9000 ∧
    ∀ S rs ns H', H S = none → H' S = some (.lst rs) → IsDs (S :: M) H' (ns.map Nd.data) rs → okSheet bx ns → ns.length = many → StrAt M H' s → Adv [s] H H' → Q (.ref S) H'
def spRaw : Sp := fun vs H Q _ => RawP vs H Q
theorem imp_new {bx : Bool} {ns : List Nd} (ok : okSheet bx ns) {i k : Nat} (hi : ns.length ≤ i + 1) : Nd.bin .imp i k ∉ ns := fun z => by
  obtain ⟨r, hr, e⟩ := List.getElem_of_mem z
  have h := ok.2 r _ (List.getElem?_eq_getElem hr)
  rw [e] at h
  simp only [Nd.ok, Bool.and_eq_true, decide_eq_true_eq] at h
  omega
theorem pick3 {x : V} (h : x ∈ [V.str "and", .str "or", .str "if"]) : ∃ o : Op3, x = .str o.str := by
  simp at h
  rcases h with h | h | h
  · exact ⟨.and, h⟩
  · exact ⟨.or, h⟩
  · exact ⟨.imp, h⟩
theorem pick4 {x : V} (h : x ∈ [V.str "and", .str "or", .str "if", .str "box"]) : x = .str "box" ∨ ∃ o : Op3, x = .str o.str := by
  simp at h
  rcases h with h | h | h | h
  · exact .inr ⟨.and, h⟩
  · exact .inr ⟨.or, h⟩
  · exact .inr ⟨.imp, h⟩
  · exact .inl h
theorem ok_law_raw (A : All K mg w) : FnOk P w K mg base CX0 3 A.law_raw.f A.law_raw.fd ["stream", "many", "boxed"] spRaw := by
  refine A.law_raw.F.ok sc_law_raw (fun vs H Q E h => ?_) (fun cdv Ar outer s H vs Q E hr h => ?_)
  · obtain ⟨M, s, many, boxed, rfl, _⟩ := h.ex
    rfl
  · obtain ⟨M, st, many, bx, rfl, hs, ms, hal, hm1, q⟩ := h.ex
    refine ⟨_, (pss_cons (ps_set (i := 3) sc_law_raw.nd rfl (Or.inl rfl) (pe_lst pa_nil))
  (pss_cons (ps_set (i := 4) sc_law_raw.nd rfl (Or.inl rfl) (pe_dnewX A.W))
  (pss_cons (ps_for PassesOwn.never rfl (pi_range1 rfl A.T.range (pa_cons (pv 1) pa_nil)) (pg_name (i := 5) sc_law_raw.nd rfl (Or.inl rfl))
    (pss_cut (ps_set (i := 6) sc_law_raw.nd rfl (Or.inl rfl) (pe_ifExp (pt_cmpR op_eq (pe_call (ok_law_next A) (hr.mono (by omega)) rfl A.law_next.m A.law_next.F.kp A.law_next.b .nil pass0 (pa_cons (pv 0) (pa_cons pe_int pa_nil))) pe_int (nomark _)) (pe_tup (pa_cons pe_str (pa_cons (pe_call (ok_law_next A) (hr.mono (by omega)) rfl A.law_next.m A.law_next.F.kp A.law_next.b .nil pass0 (pa_cons (pv 0) (pa_cons pe_int pa_nil))) pa_nil))) (pe_tup (pa_cons pe_str pa_nil))))
  (pss_cut (ps_if (PW.pt (pw_and (pt_cmpR op_gt (pv 5) pe_int (nomark _)) (pw_and1 (pt_cmpR op_gt (pe_call (ok_law_next A) (hr.mono (by omega)) rfl A.law_next.m A.law_next.F.kp A.law_next.b .nil pass0 (pa_cons (pv 0) (pa_cons pe_int pa_nil))) pe_int (nomark _)))))
    (pss_cons (ps_set (i := 7) sc_law_raw.nd rfl (Or.inl rfl) (pe_call (ok_law_pick A) (hr.mono (by omega)) rfl A.law_pick.m A.law_pick.F.kp A.law_pick.b .nil pass0 (pa_cons (pv 0) (pa_cons (pe_ifExp (pt_val (pv 2)) (pe_tup (pa_cons pe_str (pa_cons pe_str (pa_cons pe_str (pa_cons pe_str pa_nil))))) (pe_tup (pa_cons pe_str (pa_cons pe_str (pa_cons pe_str pa_nil))))) pa_nil))))
  (pss_cons (ps_set (i := 8) sc_law_raw.nd rfl (Or.inl rfl) (pe_call (ok_law_next A) (hr.mono (by omega)) rfl A.law_next.m A.law_next.F.kp A.law_next.b .nil pass0 (pa_cons (pv 0) (pa_cons (pv 5) pa_nil))))
  (pss_one (ps_set (i := 6) sc_law_raw.nd rfl (Or.inl rfl) (pe_ifExp (pt_cmpR op_eq (pv 7) pe_str (nomark _)) (pe_tup (pa_cons pe_str (pa_cons (pv 8) pa_nil))) (pe_tup (pa_cons (pv 7) (pa_cons (pv 8) (pa_cons (pe_call (ok_law_next A) (hr.mono (by omega)) rfl A.law_next.m A.law_next.F.kp A.law_next.b .nil pass0 (pa_cons (pv 0) (pa_cons (pv 5) pa_nil))) pa_nil)))))))))
    pss_nil)
  (pss_cut (ps_if (pt_cmp (pc_dinX A.W (hu_of hr) (pv 6) (pv 4)))
    (pss_one (ps_set (i := 6) sc_law_raw.nd rfl (Or.inl rfl) (pe_tup (pa_cons pe_str (pa_cons (pe_op op_sub (pv 5) pe_int) (pa_cons (pe_call (ok_law_next A) (hr.mono (by omega)) rfl A.law_next.m A.law_next.F.kp A.law_next.b .nil pass0 (pa_cons (pv 0) (pa_cons (pv 5) pa_nil))) pa_nil))))))
    pss_nil)
  (pss_cons (ps_dputX A.W (hu_of hr) (pv 4) (pv 6) (pv 5) rfl)
  (pss_one (ps_expr (pe_bm PySem.F.plainAttrs_list PySem.F.slot_list_append PySem.F.type_list_append mt_append (pv 3) (pa_cons (pv 6) pa_nil)))))))))
  (pss_one (ps_ret (pv 3)))))), ?_⟩
    walk_at "rd"
    refine ⟨Nat.zero_le _, fun S nS => ?_⟩
    walk_at "rd"
    intro T nT
    have nTS : T ≠ S := fun z => by rw [z, upd_same] at nT; cases nT
    have nT0 : H T = none := by rw [upd_ne nTS] at nT; exact nT
    have sS : S ≠ st := fun z => hs.here (by rw [← z]; exact nS)
    have sT : T ≠ st := fun z => hs.here (by rw [← z]; exact nT0)
    have aI : Adv [] H (upd (upd H S (.lst [])) T (dxo T [])) := (Adv.new nS).trans (Adv.new nT)
    have hS1 : (upd (upd H S (.lst [])) T (dxo T [])) S = some (.lst []) := by rw [upd_ne nTS.symm, upd_same]
    have hT1 : (upd (upd H S (.lst [])) T (dxo T [])) T = some (dxo T []) := upd_same
    have R0 : Rw (T :: S :: M) (upd (upd H S (.lst [])) T (dxo T [])) st S T bx [] :=
      ⟨((hs.fresh nS).fresh nT0).same aI, by simp [ms], sS, sT, ⟨⟨[], hS1, .nil⟩, Tab.new hT1, by simp, by simp, nTS.symm, fun b hb => by
        rcases List.mem_cons.mp hb with e | hb
        · rw [e, hT1]; simp
        · rcases List.mem_cons.mp hb with e | hb
          · rw [e, hS1]; simp
          · exact aI.alloc hal b hb⟩, ⟨List.nodup_nil, fun i n hi => by cases hi⟩⟩
    walk_at "rd"
    refine ⟨by omega, by omega, ?_⟩
    refine for_range (lo := 0) (n := (many : Int).toNat) (fun i σ' H' => ∃ (ns : List Nd) (x5 x6 x7 x8 : Option V), σ' = [some (.ref st), some (.int (many : Nat)), some (.bl bx), some (.ref S), some (.ref T), x5, x6, x7, x8] ∧ Rw (T :: S :: M) H' st S T bx ns ∧ ns.length = i ∧ Adv [st] H H')
      ⟨[], _, _, _, _, rfl, R0, rfl, aI.nil⟩ ?_ ?_
    · rintro i σ' H' hi ⟨ns, x5, x6, x7, x8, rfl, R, hni, a'⟩
      rw [Int.zero_add]
      have hi' : i < many := by omega
      let Mid : L2.St → Hp → Prop := fun σ'' H1 => ∃ (nd : Addr) (n : Nd) (y7 y8 : Option V), σ'' = [some (.ref st), some (.int (many : Nat)), some (.bl bx), some (.ref S), some (.ref T), some (.int (i : Nat)), some (.ref nd), y7, y8] ∧
          Rw (T :: S :: M) H1 st S T bx ns ∧ Adv [st] H H1 ∧ Tp (T :: S :: M) H1 nd (n.keys.map kV) ∧ n.ok bx i = true
      have mid : ∀ (x7 x8 : Option V) (n : Nd) (t : Addr) (H1 : Hp), Rw (T :: S :: M) H1 st S T bx ns → Adv [st] H H1 → H1 t = none → n.ok bx i = true → Mid [some (V.ref st), some (.int (many : Nat)), some (.bl bx), some (.ref S), some (.ref T), some (.int (i : Nat)), some (.ref t), x7, x8] (upd H1 t (.tup (n.keys.map kV))) :=
        fun x7 x8 n t H1 R1 a1 nt hk => ⟨t, n, x7, x8, rfl, R1.same (Adv.new nt), a1.newT nt, Tp.of upd_same (not_mem_new R1.B.al nt), hk⟩
      have keep : ∀ {H1 H2 : Hp} {nd : Addr} {n : Nd}, Tp (T :: S :: M) H1 nd (n.keys.map kV) → Adv [st] H1 H2 → Tp (T :: S :: M) H2 nd (n.keys.map kV) := fun h a => h.adv (a.more (by simp [ms]))
      walk_at "rd"
      refine ⟨Mid, ?_, ?_⟩
      · walk_at "rd"
        refine ⟨st, 3, T :: S :: M, rfl, R.str, by decide, by decide, fun d H1 d0 d1 hs1 a1 => ?_⟩
        have R1 := R.next a1 hs1
        have a01 := a'.trans a1
        walk_at "rd"
        refine iteB (fun e => ?_) (fun e => ?_)
        · walk_at "rd"
          refine ⟨st, 8, T :: S :: M, rfl, hs1, by decide, by decide, fun d2 H2 g0 g1 hs2 a2 => ?_⟩
          obtain ⟨c, rfl⟩ : ∃ c : Nat, d2 = (c : Int) := ⟨d2.toNat, by omega⟩
          walk_at "rd"
          refine ⟨by show 2 ≤ sizeLine; decide, fun t nt => ?_⟩
          walk_at "rd"
          exact mid _ _ (.letter c) t H2 (R1.next a2 hs2) (a01.trans a2) nt (by simp only [Nd.ok, decide_eq_true_eq]; omega)
        · walk_at "rd"
          refine ⟨by show 1 ≤ sizeLine; decide, fun t nt => ?_⟩
          walk_at "rd"
          exact mid _ _ .no t H1 R1 a01 nt rfl
      · rintro σ'' H1 ⟨nd, n, y7, y8, rfl, R1, a1, hnd, hok⟩
        walk_at "rd"
        refine ⟨Mid, ?_, ?_⟩
        · walk_at "rd"
          by_cases h0 : 0 < i
          case neg =>
            exact iteN (decide_eq_false (by omega)) (iteN rfl ⟨nd, n, y7, y8, rfl, R1, a1, hnd, hok⟩)
          refine iteY (decide_eq_true (by omega)) ?_
          walk_at "rd"
          refine ⟨st, 6, T :: S :: M, rfl, R1.str, by decide, by decide, fun d H2 d0 d1 hs2 a2 => ?_⟩
          have R2 := R1.next a2 hs2
          have a02 := a1.trans a2
          walk_at "rd"
          refine iteB (fun e => ?_) (fun e => ⟨nd, n, y7, y8, rfl, R2, a02, keep hnd a2, hok⟩)
          walk_at "rd"
          cases bx with
          | false =>
            walk_at "rd"
            refine ⟨by show 3 ≤ sizeLine; decide, fun p np => ?_⟩
            have R3 := R2.same (Adv.new (o := .tup [.str "and", .str "or", .str "if"]) np)
            walk_at "rd"
            refine ⟨st, p, [.str "and", .str "or", .str "if"], T :: S :: M, rfl, R3.str, .inr upd_same, fun z => hs2.here (by rw [← z]; exact np), by simp, by simp, fun x H5 hx hs5 a5 => ?_⟩
            have R5 := R3.next a5 hs5
            have a05 : Adv [st] H H5 := (a02.newT np).trans a5
            walk_at "rd"
            refine ⟨st, (i : Int), T :: S :: M, rfl, hs5, by omega, by omega, fun j H6 j0 j1 hs6 a6 => ?_⟩
            have R6 := R5.next a6 hs6
            have a06 := a05.trans a6
            obtain ⟨j, rfl⟩ : ∃ c : Nat, j = (c : Int) := ⟨j.toNat, by omega⟩
            obtain ⟨o, rfl⟩ := pick3 hx
            walk_at "rd"
            refine iteN (by cases o <;> decide) ?_
            walk_at "rd"
            refine ⟨st, (i : Int), T :: S :: M, rfl, hs6, by omega, by omega, fun k H7 k0 k1 hs7 a7 => ?_⟩
            obtain ⟨k, rfl⟩ : ∃ c : Nat, k = (c : Int) := ⟨k.toNat, by omega⟩
            walk_at "rd"
            refine ⟨by show 3 ≤ sizeLine; decide, fun t nt => ?_⟩
            walk_at "rd"
            exact mid _ _ (.bin o j k) t H7 (R6.next a7 hs7) (a06.trans a7) nt (by simp only [Nd.ok, Bool.and_eq_true, decide_eq_true_eq]; omega)
          | true =>
            walk_at "rd"
            refine ⟨by show 4 ≤ sizeLine; decide, fun p np => ?_⟩
            have R3 := R2.same (Adv.new (o := .tup [.str "and", .str "or", .str "if", .str "box"]) np)
            walk_at "rd"
            refine ⟨st, p, [.str "and", .str "or", .str "if", .str "box"], T :: S :: M, rfl, R3.str, .inr upd_same, fun z => hs2.here (by rw [← z]; exact np), by simp, by simp, fun x H5 hx hs5 a5 => ?_⟩
            have R5 := R3.next a5 hs5
            have a05 : Adv [st] H H5 := (a02.newT np).trans a5
            walk_at "rd"
            refine ⟨st, (i : Int), T :: S :: M, rfl, hs5, by omega, by omega, fun j H6 j0 j1 hs6 a6 => ?_⟩
            have R6 := R5.next a6 hs6
            have a06 := a05.trans a6
            obtain ⟨j, rfl⟩ : ∃ c : Nat, j = (c : Int) := ⟨j.toNat, by omega⟩
            rcases pick4 hx with rfl | ⟨o, rfl⟩
            · walk_at "rd"
              refine ⟨by show 2 ≤ sizeLine; decide, fun t nt => ?_⟩
              walk_at "rd"
              exact mid _ _ (.box j) t H6 R6 a06 nt (by simp only [Nd.ok, Bool.true_and, decide_eq_true_eq]; omega)
            · walk_at "rd"
              refine iteN (by cases o <;> decide) ?_
              walk_at "rd"
              refine ⟨st, (i : Int), T :: S :: M, rfl, hs6, by omega, by omega, fun k H7 k0 k1 hs7 a7 => ?_⟩
              obtain ⟨k, rfl⟩ : ∃ c : Nat, k = (c : Int) := ⟨k.toNat, by omega⟩
              walk_at "rd"
              refine ⟨by show 3 ≤ sizeLine; decide, fun t nt => ?_⟩
              walk_at "rd"
              exact mid _ _ (.bin o j k) t H7 (R6.next a7 hs7) (a06.trans a7) nt (by simp only [Nd.ok, Bool.and_eq_true, decide_eq_true_eq]; omega)
        · rintro σ'' H1 ⟨nd, n, y7, y8, rfl, R1, a1, hnd, hok⟩
          walk_at "rd"
          refine ⟨fun σ'' H1 => ∃ (nd : Addr) (n : Nd) (y7 y8 : Option V), σ'' = [some (.ref st), some (.int (many : Nat)), some (.bl bx), some (.ref S), some (.ref T), some (.int (i : Nat)), some (.ref nd), y7, y8] ∧
            Rw (T :: S :: M) H1 st S T bx ns ∧ Adv [st] H H1 ∧ Tp (T :: S :: M) H1 nd (n.keys.map kV) ∧ n.ok bx i = true ∧ n ∉ ns, ?_, ?_⟩
          · walk_at "rd"
            have hg := R1.B.tab.get A.W hnd
            rw [tab_val] at hg
            refine ⟨_, rfl, _, rfl, T, _, rfl, hg, ?_⟩
            by_cases hm : n ∈ ns
            · rw [if_pos hm]
              have h0 : 0 < ns.length := List.length_pos_of_mem hm
              walk_at "rd"
              refine ⟨st, (i : Int), T :: S :: M, rfl, R1.str, by omega, by omega, fun k H7 k0 k1 hs7 a7 => ?_⟩
              obtain ⟨k, rfl⟩ : ∃ c : Nat, k = (c : Int) := ⟨k.toNat, by omega⟩
              have ei : (i : Int) - 1 = ((i - 1 : Nat) : Int) := by omega
              rw [ei]
              walk_at "rd"
              refine ⟨by show 3 ≤ sizeLine; decide, fun t nt => ?_⟩
              walk_at "rd"
              have R7 := R1.next a7 hs7
              exact ⟨t, .bin .imp (i - 1) k, _, _, rfl, R7.same (Adv.new nt), (a1.trans a7).newT nt, Tp.of upd_same (not_mem_new R7.B.al nt), by simp only [Nd.ok, Bool.and_eq_true, decide_eq_true_eq]; omega, imp_new R7.ok (by omega)⟩
            · rw [if_neg hm]
              walk_at "rd"
              exact ⟨nd, n, y7, y8, rfl, R1, a1, hnd, hok, hm⟩
          · rintro σ'' H1 ⟨nd, n, y7, y8, rfl, R1, a1, hnd, hok, hm⟩
            walk_at "rd"
            obtain ⟨rs, hS, hrs⟩ := R1.B.rows
            have hrl : rs.length = i := by rw [hrs.len, List.length_map, hni]
            obtain ⟨o, hg, B2⟩ := R1.B.push A.W hS hnd hm (by rw [sizeLine_eq]; omega)
            rw [hrl] at hg
            refine ⟨_, rfl, _, rfl, _, rfl, T, _, rfl, hg, ?_⟩
            have hS2 : (upd H1 T o) S = some (.lst rs) := by rw [upd_ne nTS.symm]; exact hS
            walk_at "rd"
            refine rd_app hS2 (by rw [sizeLine_eq]; omega) ?_
            have aa : Adv [S, T] H1 (upd (upd H1 T o) S (.lst (rs ++ [.ref nd]))) := (Adv.set (by simp)).trans (Adv.set (by simp))
            have ok2 := rowF_ok R1.ok (n := n) (by rw [hni]; exact hok)
            unfold rowF at ok2
            rw [if_neg hm] at ok2
            exact ⟨ns ++ [n], _, _, _, _, rfl, ⟨R1.str.adv aa (notin2 sS.symm sT.symm) (by simp), by simp [ms], sS, sT, B2, ok2⟩, by simp [hni], (a1.mut nT0).mut nS⟩
    · rintro σ' H' ⟨ns, x5, x6, x7, x8, rfl, R, hni, a'⟩
      walk_at "rd"
      obtain ⟨rs, hS, hrs⟩ := R.B.rows
      exact q S rs ns H' nS hS (hrs.less (by simp +contextual)) R.ok (by omega) (R.str.less (by simp +contextual)) a'
end

set_option Elab.async false
set_option linter.all false
set_option maxRecDepth 100000
set_option maxHeartbeats 4000000
open PySem PySem.Spec PyProof.Rows L2 LL
open C8 (pss_cut)
section
variable [KW]
variable {P : Program} {w : World} {K : PySem.W.Frag} {mg : Str → Option Value} {base : Heap}
/-! ### _law_reason -/
def reD (x : Str) (d : PyData) : PyData :=
  if logicOk x = false then .list [.str "other", .str "BadLogic"]
  else match claimM 60 (logicB x) d with
    | some (c, y) => if c = "BadSheet" then .list [.str "sheet", y, .str "BadSheet"] else .list [.str "claim", y, .str "BadClaim"]
    | none => .none
structure ReaP (vs : List V) (H : Hp) (Q : VK) : Prop where
  ex : ∃ (M : List Addr) (x : Str) (v : V) (d : PyData), vs = [.str x, v] ∧ (∀ b ∈ M, H b ≠ none) ∧ Is M H d v ∧ sz d ≤ 200000 ∧ ∀ y H', Is M H' (reD x d) y → Adv [] H H' → Q y H'
def spRea : Sp := fun vs H Q _ => ReaP vs H Q
theorem ok_law_reason (A : All K mg w) : FnOk P w K mg base CX0 5 A.law_reason.f A.law_reason.fd ["logic", "claim"] spRea := by
  refine A.law_reason.F.ok sc_law_reason (fun vs H Q E h => ?_) (fun cdv Ar outer s H vs Q E hr h => ?_)
  · obtain ⟨M, x, v, d, rfl, _⟩ := h.ex
    rfl
  · obtain ⟨M, x, v, d, rfl, al, hv, hz, q⟩ := h.ex
    refine ⟨_, (pss_cut (ps_if (pt_cmpR op_notIn_seq (pv 0) (pe_tup (pa_cons pe_str (pa_cons pe_str (pa_cons pe_str (pa_cons pe_str (pa_cons pe_str pa_nil)))))) rfl)
    (pss_one (ps_ret (pe_lst (pa_cons pe_str (pa_cons pe_str pa_nil)))))
    pss_nil)
  (pss_cut (ps_if (PW.pt (pw_or (pt_not (pt_val (pe_callB call_isi (by rfl) A.T.isinstance (by decide +kernel) (pa_cons (pv 1) (pa_cons (pe_bltn (v := .ty "tuple") (by rfl) A.T.tuple (by decide +kernel) rfl) pa_nil))))) (pw_or1 (pt_cmpR op_ne (pe_callB call_len_seq (by rfl) A.T.len PySem.boot_len (pa_cons (pv 1) pa_nil)) pe_int (nomark _)))))
    (pss_one (ps_ret (pe_lst (pa_cons pe_str (pa_cons pe_str (pa_cons pe_str pa_nil))))))
    pss_nil)
  (pss_cons (ps_set (i := 2) sc_law_reason.nd rfl (Or.inl rfl) (pe_call (ok_law_wrong_row A) (hr.mono (by omega)) rfl A.law_wrong_row.m A.law_wrong_row.F.kp A.law_wrong_row.b .nil pass0 (pa_cons (pe_ix ix_tup (pv 1) pe_int (fun _ _ => rfl)) (pa_cons pe_int (pa_cons (pe_call (ok_law_is_boxed A) (hr.mono (by omega)) rfl A.law_is_boxed.m A.law_is_boxed.F.kp A.law_is_boxed.b .nil pass0 (pa_cons (pv 0) pa_nil)) pa_nil)))))
  (pss_cons (ps_if (pt_cmpR op_notN (pv 2) pe_non (nomark _))
    (pss_one (ps_ret (pe_lst (pa_cons pe_str (pa_cons (pv 2) (pa_cons pe_str pa_nil))))))
    pss_nil)
  (pss_cons (ps_for PassesOwn.never rfl (pi_tup (pe_tup (pa_cons pe_int (pa_cons pe_int (pa_cons pe_int pa_nil))))) (pg_name (i := 3) sc_law_reason.nd rfl (Or.inl rfl))
    (pss_one (ps_if (PW.pt (pw_or (pt_not (pt_val (pe_call (ok_law_is_rows A) (hr.mono (by omega)) rfl A.law_is_rows.m A.law_is_rows.F.kp A.law_is_rows.b .nil pass0 (pa_cons (pe_ix ix_tup (pv 1) (pv 3) (fun _ _ => rfl)) (pa_cons (pe_callB call_len_seq (by rfl) A.T.len PySem.boot_len (pa_cons (pe_ix ix_tup (pv 1) pe_int (fun _ _ => rfl)) pa_nil)) pa_nil))))) (pw_or1 (PW.pt (pw_and (pt_cmpR op_eq (pv 3) pe_int (nomark _)) (pw_and (pt_cmpR (op_neD hr.units) (pe_ix ix_tup (pv 1) (pv 3) (fun _ _ => rfl)) (pe_tup pa_nil) (nomark _)) (pw_and1 (pt_not (pt_val (pe_call (ok_law_is_boxed A) (hr.mono (by omega)) rfl A.law_is_boxed.m A.law_is_boxed.F.kp A.law_is_boxed.b .nil pass0 (pa_cons (pv 0) pa_nil)))))))))))
    (pss_one (ps_ret (pe_lst (pa_cons pe_str (pa_cons (pe_ix ix_tup (pe_tup (pa_cons pe_str (pa_cons pe_str (pa_cons pe_str (pa_cons pe_str pa_nil))))) (pv 3) (fun _ _ => rfl)) (pa_cons pe_str pa_nil))))))
    pss_nil)))
  (pss_one (ps_ret pe_non))))))), ?_⟩
    have e5 : inV (.str x) [.str "classical", .str "intuit", .str "k", .str "s4", .str "gl"] = logicOk x := (inV_strs x ["classical", "intuit", "k", "s4", "gl"]).trans (by simp [logicOk, Bool.or_assoc])
    refine ⟨fun σ' H' => σ' = [some (.str x), some v, none, none] ∧ logicOk x = true ∧ Adv [] H H', ?_, ?_⟩
    · walk_at "rd"
      refine ⟨by show 5 ≤ sizeLine; decide, fun p np => ?_⟩
      have ap : Adv [] H (upd H p (.tup [.str "classical", .str "intuit", .str "k", .str "s4", .str "gl"])) := Adv.new np
      refine ⟨p, _, rfl, .inr (SqT.of upd_same), rfl, by decide, ?_⟩
      rw [if_pos rfl, e5]
      walk_at "rd"
      cases ex : logicOk x with
      | true =>
        refine iteN rfl ?_
        walk_at "rd"
        exact ⟨rfl, rfl, ap⟩
      | false =>
        refine iteY rfl ?_
        walk_at "rd"
        refine ⟨by show 2 ≤ sizeLine; decide, fun p2 np2 => ?_⟩
        refine q _ _ ?_ (ap.newT np2)
        unfold reD
        rw [if_pos ex]
        exact Is.lst upd_same (not_mem_new (alloc_adv al ap (by simp)) np2) (.cons .str (IsDs.one .str))
    rintro σ' H1 ⟨rfl, hx, a1⟩
    have red : ∀ {c : Str} {y : PyData}, claimM 60 (logicB x) d = some (c, y) → reD x d = if c = "BadSheet" then .list [.str "sheet", y, .str "BadSheet"] else .list [.str "claim", y, .str "BadClaim"] := fun {c y} e => by
      unfold reD
      rw [if_neg (by rw [hx]; decide), e]
    refine ⟨fun σ' H' => σ' = [some (.str x), some v, none, none] ∧ tupN 4 d = true ∧ Adv [] H H', ?_, ?_⟩
    · walk_at "rd"
      refine ⟨_, _, _, _, _, rfl, .ty _, (hv.adv a1.nil).ty A.W, k_tuple d, ?_⟩
      walk_at "rd"
      have bad : ∀ {H2 : Hp} {p : Addr}, tupN 4 d = false → Adv [] H H2 → H2 p = none → Q (.ref p) (upd H2 p (.lst [.str "claim", .str "claim", .str "BadClaim"])) := fun {H2 p} e a np => by
        refine q _ _ ?_ (a.newT np)
        rw [red (four_not e), if_neg (by decide)]
        exact Is.lst upd_same (not_mem_new (alloc_adv al a (by simp)) np) (.cons .str (.cons .str (IsDs.one .str)))
      by_cases hT' : ∃ ds, d = .tuple ds
      case neg =>
        have e3 : kitD d "tuple" = false ∧ tupN 4 d = false := by
          cases d with
          | tuple ds => exact absurd ⟨ds, rfl⟩ hT'
          | _ => exact ⟨by simp [kitD, tyN], rfl⟩
        refine iteY (by rw [e3.1]; rfl) ?_
        walk_at "rd"
        refine ⟨by show 3 ≤ sizeLine; decide, fun p np => ?_⟩
        exact bad e3.2 a1 np
      obtain ⟨ds, rfl⟩ := hT'
      obtain ⟨b, us, rfl, hb, hus⟩ := (hv.adv a1.nil).tupE
      have hul := hus.len
      have hb2 := hb.sq A.W
      refine iteN (by simp [kitD, tyN]) ?_
      walk_at "rd"
      rw [hul]
      cases e4 : tupN 4 (.tuple ds) with
      | true =>
        have e4' : (ds.length : Int) = 4 := of_decide_eq_true e4
        refine iteN (by rw [e4']; decide) ?_
        exact ⟨rfl, rfl, a1⟩
      | false =>
        have e4' : ¬ (ds.length : Int) = 4 := of_decide_eq_false e4
        refine iteY (by simpa using e4') ?_
        walk_at "rd"
        refine ⟨by show 3 ≤ sizeLine; decide, fun p np => ?_⟩
        exact bad e4 a1 np
    rintro σ' H2 ⟨rfl, e4, a2⟩
    obtain ⟨da, db, dc, de, rfl⟩ := four_yes e4
    obtain ⟨z1, z2, z3, z4⟩ := sz_four (show sz (.tuple [da, db, dc, de]) ≤ 1000000 by omega)
    obtain ⟨t, vs, rfl, htp, hs⟩ := hv.tupE
    obtain ⟨va, vb, vc, ve, rfl, ha, hb', hc, he⟩ := IsDs.four hs
    have sq := htp.sq A.W
    have sq2 := SqT.adv a2 sq
    walk_at "rd"
    refine ⟨x, rfl, fun H3 a3 => ?_⟩
    have a23 := a2.trans a3
    walk_at "rd"
    refine ⟨va, da, 60, logicB x, rfl, (ha.adv a23.nil).less (by simp), by decide, sz_lstZ z1, fun H4 a4 => ?_⟩
    have aH := a23.trans a4
    walk_at "rd"
    cases ew : wrongD 60 (logicB x) da with
    | some i =>
      refine iteY (by simp [resV]) ?_
      walk_at "rd"
      refine ⟨by show 3 ≤ sizeLine; decide, fun p np => ?_⟩
      refine q _ _ ?_ (aH.newT np)
      rw [red (cw_sheet ew), if_pos rfl]
      exact Is.lst upd_same (not_mem_new (alloc_adv al aH (by simp)) np) (.cons .str (.cons .int (IsDs.one .str)))
    | none =>
      refine iteN (by simp [resV]) ?_
      obtain ⟨ns, rfl, ok, hl⟩ := wrongD_none (by decide) ew
      obtain ⟨sh, rs, rfl, _, hsh, rd⟩ := ha.lstE
      have hrl := rd.len
      rw [List.length_map] at hrl
      have el : lenD (.list (ns.map Nd.data)) = ns.length := by show (ns.map Nd.data).length = ns.length; rw [List.length_map]
      have cn := cw_next (b := db) (c := dc) (d := de) ew
      rw [el] at cn
      clear a2 a3 a23 a4 sq2 a1
      have aH4 := aH
      have bad : ∀ {H2 : Hp} {p : Addr} {z : Str}, claimM 60 (logicB x) (.tuple [.list (ns.map Nd.data), db, dc, de]) = cw "BadClaim" (.str z) → Adv [] H H2 → H2 p = none → Q (.ref p) (upd H2 p (.lst [.str "claim", .str z, .str "BadClaim"])) := fun {H2 p z} e a np => by
        refine q _ _ ?_ (a.newT np)
        rw [red e, if_neg (by decide)]
        exact Is.lst upd_same (not_mem_new (alloc_adv al a (by simp)) np) (.cons .str (.cons .str (IsDs.one .str)))
      walk_at "rd"
      refine ⟨by show 3 ≤ sizeLine; decide, fun W nW => ?_⟩
      have aW : Adv [] H4 (upd H4 W (.tup [.int 1, .int 2, .int 3])) := Adv.new nW
      have aH4 := aH.trans aW
      have hW : (upd H4 W (.tup [.int 1, .int 2, .int 3])) W = some (.tup [.int 1, .int 2, .int 3]) := upd_same
      generalize (upd H4 W (.tup [.int 1, .int 2, .int 3])) = H4 at aH4 hW
      clear aW nW aH
      have hW0 := hW
      refine ⟨W, rfl, ⟨_, SqT.of hW⟩, ?_⟩
      refine for_tup (a := W) (xs := [.int 1, .int 2, .int 3]) (fun i σ' H' => ∃ y3, σ' = [some (.str x), some (.ref t), some (resV none), y3] ∧ H' W = some (.tup [.int 1, .int 2, .int 3]) ∧ Adv [] H4 H' ∧ (0 < i → (rowsB (ns.length : Nat) db && (logicB x || emptyT db)) = true) ∧ (1 < i → rowsB (ns.length : Nat) dc = true) ∧ (2 < i → rowsB (ns.length : Nat) de = true))
        ⟨_, rfl, hW, Adv.refl _ _, by simp, by simp, by simp⟩ ?_ ?_ ?_
      · rintro i σ' H' hi ⟨y3, rfl, hW, _⟩
        exact SqT.of hW
      · rintro i v0 σ' H' hx0 ⟨y3, rfl, hW, a, c0, c1, c2⟩
        have hx' : (i = 0 ∧ v0 = .int 1) ∨ (i = 1 ∧ v0 = .int 2) ∨ (i = 2 ∧ v0 = .int 3) := by
          rcases i with _ | _ | _ | i
          · exact .inl ⟨rfl, (Option.some.inj hx0).symm⟩
          · exact .inr (.inl ⟨rfl, (Option.some.inj hx0).symm⟩)
          · exact .inr (.inr ⟨rfl, (Option.some.inj hx0).symm⟩)
          · cases hx0
        clear hx0
        rcases hx' with ⟨rfl, rfl⟩ | ⟨rfl, rfl⟩ | ⟨rfl, rfl⟩
        · skip
          have aK := aH4.trans a
          have hsh' := aK.same _ _ hsh
          have sq' := SqT.adv aK sq
          refine ⟨_, rfl, ?_⟩
          walk_at "rd"
          rw [hrl]
          refine ⟨vb, db, (ns.length : Nat), rfl, (hb'.adv aK.nil).less (by simp), sz_tupZ z2, fun H5 a5 => ?_⟩
          have aK5 := aK.trans a5
          have sq5 := SqT.adv a5 sq'
          walk_at "rd"
          cases e1 : rowsB (ns.length : Nat) db with
          | false =>
            refine iteY rfl ?_
            walk_at "rd"
            refine ⟨by show 4 ≤ sizeLine; decide, fun p np => ?_⟩
            have sqp : SqT K (upd H5 p (.tup [.str "claim", .str "theory", .str "left", .str "right"])) p [.str "claim", .str "theory", .str "left", .str "right"] := SqT.of upd_same
            walk_at "rd"
            refine ⟨by show 3 ≤ sizeLine; decide, fun p2 np2 => ?_⟩
            exact bad (cn.trans (if_pos (by rw [e1]; rfl))) (aK5.newT np) np2
          | true =>
            refine iteN rfl ?_
            obtain ⟨rows, rfl, hr1, hr2⟩ := rows_nat e1
            obtain ⟨tb, us, rfl, htb, hsb⟩ := hb'.tupE
            rw [nD_of hsb] at htb
            walk_at "rd"
            refine ⟨Nat.zero_le _, fun p np => ?_⟩
            have a6 : Adv [] H (upd H5 p (.tup [])) := aK5.newT np
            refine ⟨_, _, .tup ((htb.adv a6.nil).sq A.W) (dp_nD rows), .tup (SqT.of upd_same) .nil, shaped_nD rows, by decide +kernel, ?_⟩
            rw [eqv_nil]
            walk_at "rd"
            have aX : Adv [] H4 (upd H5 p (.tup [])) := (a.trans a5).newT np
            cases rows with
            | nil =>
              refine iteN rfl ?_
              refine iteN rfl ?_
              exact ⟨_, rfl, aX.same _ _ hW0, aX, fun _ => by cases logicB x <;> rfl, by simp, by simp⟩
            | cons r rows =>
              refine iteY rfl ?_
              walk_at "rd"
              refine ⟨x, rfl, fun H6 a7 => ?_⟩
              walk_at "rd"
              cases eb : logicB x with
              | true =>
                refine iteN rfl ?_
                exact ⟨_, rfl, (aX.trans a7).same _ _ hW0, aX.trans a7, fun _ => rfl, by simp, by simp⟩
              | false =>
                refine iteY rfl ?_
                walk_at "rd"
                refine ⟨by show 4 ≤ sizeLine; decide, fun p2 np2 => ?_⟩
                have sqp : SqT K (upd H6 p2 (.tup [.str "claim", .str "theory", .str "left", .str "right"])) p2 [.str "claim", .str "theory", .str "left", .str "right"] := SqT.of upd_same
                walk_at "rd"
                refine ⟨by show 3 ≤ sizeLine; decide, fun p3 np3 => ?_⟩
                exact bad (cn.trans (if_pos (by rw [e1, eb]; rfl))) ((a6.trans a7).newT np2) np3
        · have k0 := c0 (by decide)
          rw [if_neg (by rw [k0]; decide)] at cn
          have aK := aH4.trans a
          have hsh' := aK.same _ _ hsh
          have sq' := SqT.adv aK sq
          refine ⟨_, rfl, ?_⟩
          walk_at "rd"
          rw [hrl]
          refine ⟨vc, dc, (ns.length : Nat), rfl, (hc.adv aK.nil).less (by simp), sz_tupZ z3, fun H5 a5 => ?_⟩
          have aK5 := aK.trans a5
          have sq5 := SqT.adv a5 sq'
          walk_at "rd"
          cases e1 : rowsB (ns.length : Nat) dc with
          | false =>
            refine iteY rfl ?_
            walk_at "rd"
            refine ⟨by show 4 ≤ sizeLine; decide, fun p2 np2 => ?_⟩
            have sqp : SqT K (upd H5 p2 (.tup [.str "claim", .str "theory", .str "left", .str "right"])) p2 [.str "claim", .str "theory", .str "left", .str "right"] := SqT.of upd_same
            walk_at "rd"
            refine ⟨by show 3 ≤ sizeLine; decide, fun p3 np3 => ?_⟩
            exact bad (cn.trans (if_pos e1)) (aK5.newT np2) np3
          | true =>
            refine iteN rfl ?_
            walk_at "rd"
            exact ⟨_, rfl, (a.trans a5).same _ _ hW0, a.trans a5, fun _ => k0, fun _ => rfl, by simp⟩
        · have k0 := c0 (by decide)
          have k1 := c1 (by decide)
          rw [if_neg (by rw [k0]; decide), if_neg (by rw [k1]; decide)] at cn
          have aK := aH4.trans a
          have hsh' := aK.same _ _ hsh
          have sq' := SqT.adv aK sq
          refine ⟨_, rfl, ?_⟩
          walk_at "rd"
          rw [hrl]
          refine ⟨ve, de, (ns.length : Nat), rfl, (he.adv aK.nil).less (by simp), sz_tupZ z4, fun H5 a5 => ?_⟩
          have aK5 := aK.trans a5
          have sq5 := SqT.adv a5 sq'
          walk_at "rd"
          cases e1 : rowsB (ns.length : Nat) de with
          | false =>
            refine iteY rfl ?_
            walk_at "rd"
            refine ⟨by show 4 ≤ sizeLine; decide, fun p2 np2 => ?_⟩
            have sqp : SqT K (upd H5 p2 (.tup [.str "claim", .str "theory", .str "left", .str "right"])) p2 [.str "claim", .str "theory", .str "left", .str "right"] := SqT.of upd_same
            walk_at "rd"
            refine ⟨by show 3 ≤ sizeLine; decide, fun p3 np3 => ?_⟩
            exact bad (cn.trans (if_pos e1)) (aK5.newT np2) np3
          | true =>
            refine iteN rfl ?_
            walk_at "rd"
            exact ⟨_, rfl, (a.trans a5).same _ _ hW0, a.trans a5, fun _ => k0, fun _ => k1, fun _ => rfl⟩
      · rintro σ' H' ⟨y3, rfl, hW, a, c0, c1, c2⟩
        have k0 := c0 (by decide)
        have k1 := c1 (by decide)
        have k2 := c2 (by decide)
        rw [if_neg (by rw [k0]; decide), if_neg (by rw [k1]; decide), if_neg (by rw [k2]; decide)] at cn
        walk_at "rd"
        refine q _ _ ?_ (aH4.trans a)
        unfold reD
        rw [if_neg (by rw [hx]; decide), cn]
        exact Is.non
end

set_option Elab.async false
set_option linter.all false
set_option maxRecDepth 100000
set_option maxHeartbeats 4000000
open PySem PySem.Spec PyProof.Rows L2 LL
open C8 (pss_cut)
section
variable [KW]
variable {P : Program} {w : World} {K : PySem.W.Frag} {mg : Str → Option Value} {base : Heap}
theorem range_getD (T : List Nat) : (List.range T.length).map (fun i => T.getD i 0) = T := by
  apply List.ext_getElem
  · simp
  · intro i h1 h2
    simp [h2]
theorem range_filt (T : List Nat) (c : Nat → Bool) (ys : Nat → V) : ((List.range T.length).filter fun i => c (T.getD i 0)).map (fun i => ys (T.getD i 0)) = (T.filter c).map ys := by
  have e : T.filter c = ((List.range T.length).filter (c ∘ fun i => T.getD i 0)).map (fun i => T.getD i 0) := by
    rw [← List.filter_map, range_getD]
  rw [e, List.map_map]
  rfl
/-- a comprehension with a test over a, a list or a tuple of rows -/
theorem lc_sqF {K : PySem.W.Frag} {j : Nat} {a : Addr} {T : List Nat} {g : TG} {tt : TT} {te : TE} {vs : List Nat} {σ : L2.St} {H : Hp} {Q : VK} (e : σ[j]? = some (some (.ref a))) (src : H a = some (.lst (nVl T)) ∨ SqT K H a (nVl T)) (ys : Nat → V) (c : Nat → Bool) (hz : T.length ≤ 1000000)
    (hs : ∀ (D : Addr) (k : Nat) (H' : Hp) (acc : List V) (R : V → Hp → Prop) (R0 : Hp → Prop), k ∈ T → Adv [] H H' → H' D = some (.lst acc) → (c k = true → ∀ H4, H4 D = some (.lst acc) → Adv [] H H4 → R (ys k) H4) → (c k = false → ∀ H4, H4 D = some (.lst acc) → Adv [] H H4 → R0 H4) → g (.int (k : Nat)) (wipe σ vs) H' fun σ2 H2 => wipe σ2 vs = wipe σ vs ∧ tt σ2 H2 fun b H3 => if b = true then te σ2 H3 R else R0 H3)
    (hd : ∀ D H', H D = none → Adv [] H H' → H' D = some (.lst ((T.filter c).map ys)) → Q (.ref D) H') : tLc (iSq K (tVar j)) g tt te vs σ H Q := by
  rcases src with src | src
  · exact Or.inl ⟨_, e, a, rfl, ⟨_, SqL.of src⟩, fun D nD => lc_filtL ys c nD src hz (hs D) (hd D · nD)⟩
  · refine Or.inr ⟨_, e, a, rfl, ⟨_, src⟩, fun D nD => lc_filtT (fun i => ys (T.getD i 0)) (fun i => c (T.getD i 0)) nD src (by rw [nVl_ln]; exact hz) (fun i x H' acc R R0 hx a' hD k k0 => ?_) (fun H' a' hD => hd D H' nD a' ?_)⟩
    · obtain ⟨r, hr, rfl⟩ := nVl_gt hx
      have er : T.getD i 0 = r := by rw [List.getD_eq_getElem?_getD, hr]; rfl
      rw [er] at k k0
      exact hs D r H' acc R R0 (List.mem_of_getElem? hr) a' hD k k0
    · rw [hD, nVl_ln, range_filt]
/-! ### _law_less -/
/-- rows as a list or as a tuple -/
def Rws (M : List Addr) (H : Hp) (a : Addr) (l : List Nat) : Prop := H a = some (.lst (nVl l)) ∨ Tp M H a (nVl l)
theorem Rws.adv {M : List Addr} {H H' : Hp} {a : Addr} {l : List Nat} (x : Rws M H a l) (e : Adv M H H') (h : a ∉ M) : Rws M H' a l := x.imp (fun q => e.get q h) (fun q => q.adv e)
theorem Rws.sq {M : List Addr} {H : Hp} {a : Addr} {l : List Nat} (W : KWOk K w) (x : Rws M H a l) : SqL K H a (nVl l) ∨ SqT K H a (nVl l) := x.imp SqL.of (fun q => q.sq W)
structure LesP (vs : List V) (H : Hp) (Q : VK) : Prop where
  ex : ∃ (a : Addr) (l : List Nat) (row : Int), vs = [.ref a, .int row] ∧ Rws [] H a l ∧ l.length ≤ 100000 ∧ ∀ D H', H D = none → H' D = some (.lst (nVl (l.filter fun (k : Nat) => decide (((k : Nat) : Int) ≠ row)))) → Adv [] H H' → Q (.ref D) H'
def spLes : Sp := fun vs H Q _ => LesP vs H Q
theorem ok_law_less (A : All K mg w) : FnOk P w K mg base CX0 1 A.law_less.f A.law_less.fd ["rows", "row"] spLes := by
  refine A.law_less.F.ok sc_law_less (fun vs H Q E h => ?_) (fun cdv Ar outer s H vs Q E hr h => ?_)
  · obtain ⟨a, l, row, rfl, _⟩ := h.ex
    rfl
  · obtain ⟨a, l, row, rfl, ha, hz, q⟩ := h.ex
    refine ⟨_, (pss_one (ps_ret (pe_lc (own := [("other", 2)]) (g := (gName 2)) rfl sc_law_less.nd (pi_sq (pv 0)) (blkOk_by (own := [("other", 2)]) (N := ["rows", "row", "other"]) (sc := defScope s_law_less) (by decide +kernel)) (fun _ _ _ _ _ => pg_name (i := 2) sc_law_less.nd rfl (Or.inl rfl)) (fun _ _ _ _ _ => pts_one (pt_cmpR op_ne (pv 2) (pv 1) (nomark _))) (fun _ _ _ _ _ => (pv 2))))), ?_⟩
    walk_at "rd"
    refine lc_sqF (j := 0) (a := a) (T := l) rfl (ha.imp id (fun h => h.sq A.W)) (fun k => V.int (k : Nat)) (fun k => decide (((k : Nat) : Int) ≠ row)) (by omega) ?_ ?_
    · intro D k H' acc R R0 hk a' hD go go0
      refine ⟨rfl, ?_⟩
      walk_at "rd"
      refine iteB (fun e => ?_) (fun e => ?_)
      · walk_at "rd"
        exact go (by simpa using e) H' hD a'
      · exact go0 (by simpa using e) H' hD a'
    · intro D H' nD a' hD
      exact q D H' nD hD a'
theorem nox_w {CX : CXT} {P : Program} {w : World} {K : PySem.W.Frag} {mg : Str → Option Value} {base : Heap} {N : List Str} {qual : Str} {scope : Scope} {f : Addr} {cd : Value} {Ar : Around} {outer : List Env} {s : Shared} {H : Hp} {E : XK} : (cxOf CX P w K mg base N qual scope f cd Ar outer s H E).nox.w = w := rfl
/-! ### _law_line -/
structure LinP (vs : List V) (H : Hp) (Q : VK) : Prop where
  ex : ∃ (M : List Addr) (ln lf rt pr : Addr) (rule : Str) (main : Int) (xs ps : List V) (le ri : List Nat), vs = [.ref ln, .ref lf, .ref rt, .str rule, .ref pr, .int main] ∧ (∀ b ∈ M, H b ≠ none) ∧ H ln = some (.lst xs) ∧ xs.length ≤ 1000000 ∧ Rws [] H lf le ∧ Rws [] H rt ri ∧ le.length ≤ 4000 ∧ ri.length ≤ 4000 ∧ Tp M H pr ps ∧
    ∀ t l r H', H t = none → H' ln = some (.lst (xs ++ [.ref t])) → t ≠ ln → H' t = some (.tup [.ref l, .ref r, .str rule, .ref pr, .int main]) → H l = none → H' l = some (.tup (nVl (srtN le))) → H r = none → H' r = some (.tup (nVl (srtN ri))) → Adv [ln] H H' → Q (.int (xs.length : Nat)) H'
def spLin : Sp := fun vs H Q _ => LinP vs H Q
theorem ok_law_line (A : All K mg w) : FnOk P w K mg base CX0 1 A.law_line.f A.law_line.fd ["lines", "left", "right", "rule", "premises", "main"] spLin := by
  refine A.law_line.F.ok sc_law_line (fun vs H Q E h => ?_) (fun cdv Ar outer s H vs Q E hr h => ?_)
  · obtain ⟨M, ln, lf, rt, pr, rule, main, xs, ps, le, ri, rfl, _⟩ := h.ex
    rfl
  · obtain ⟨M, ln, lf, rt, pr, rule, main, xs, ps, le, ri, rfl, al, hln, hxz, hlf, hrt, hlz, hrz, hpr, q⟩ := h.ex
    refine ⟨_, (pss_cons (ps_expr (pe_bm PySem.F.plainAttrs_list PySem.F.slot_list_append PySem.F.type_list_append mt_append (pv 0) (pa_cons (pe_tup (pa_cons (pe_callTy call_tuple_of (by rfl) A.T.tuple (by decide +kernel) (pa_cons (pe_callB (cr_sortS rfl) (by rfl) A.T.sorted (by decide +kernel) (pa_cons (pe_callTy (cr_setL rfl) (by rfl) A.T.set (by decide +kernel) (pa_cons (pv 1) pa_nil)) pa_nil)) pa_nil)) (pa_cons (pe_callTy call_tuple_of (by rfl) A.T.tuple (by decide +kernel) (pa_cons (pe_callB (cr_sortS rfl) (by rfl) A.T.sorted (by decide +kernel) (pa_cons (pe_callTy (cr_setL rfl) (by rfl) A.T.set (by decide +kernel) (pa_cons (pv 2) pa_nil)) pa_nil)) pa_nil)) (pa_cons (pv 3) (pa_cons (pe_callTy call_tuple_of (by rfl) A.T.tuple (by decide +kernel) (pa_cons (pv 4) pa_nil)) (pa_cons (pv 5) pa_nil)))))) pa_nil)))
  (pss_one (ps_ret (pe_op op_sub (pe_callB call_len_seq (by rfl) A.T.len PySem.boot_len (pa_cons (pv 0) pa_nil)) pe_int)))), ?_⟩
    dsimp only [nox_w]
    have ev : ∀ l : List Nat, nVl l = (l.map fun r => ((r : Nat) : Int)).map V.int := fun l => by unfold nVl; rw [List.map_map]; rfl
    walk_at "rd"
    refine ⟨lf, _, rfl, by rw [← ev]; exact hlf.sq A.W, by rw [List.length_map]; exact hlz, fun p n _ np => ?_⟩
    refine ⟨p, _, n, rfl, upd_same, fun ns p2 hs hm _ np2 => ?_⟩
    have e2 : ns = srtU (le.map fun r => ((r : Nat) : Int)) := srtU_of hs hm
    subst e2
    rw [nV_srt]
    refine ⟨p2, _, rfl, .inl ⟨SqL.of upd_same, fun l nl => ?_⟩⟩
    have a1 := ((Adv.new (M := []) (o := SetO w p (fun j => decide (j ∈ le.map fun r => ((r : Nat) : Int))) n) np).newT (o := .lst (nVl (srtN le))) np2).newT (o := .tup (nVl (srtN le))) nl
    have nl0 : H l = none := ((Adv.new (M := []) (o := SetO w p (fun j => decide (j ∈ le.map fun r => ((r : Nat) : Int))) n) np).newT (o := .lst (nVl (srtN le))) np2).free (by simp) nl
    have hl1 : (upd (upd (upd H p (SetO w p (fun j => decide (j ∈ le.map fun r => ((r : Nat) : Int))) n)) p2 (.lst (nVl (srtN le)))) l (.tup (nVl (srtN le)))) l = some (.tup (nVl (srtN le))) := upd_same
    generalize (upd (upd (upd H p (SetO w p (fun j => decide (j ∈ le.map fun r => ((r : Nat) : Int))) n)) p2 (.lst (nVl (srtN le)))) l (.tup (nVl (srtN le)))) = H1 at a1 hl1
    clear np np2 nl hs hm
    walk_at "rd"
    refine ⟨rt, _, rfl, by rw [← ev]; exact (hrt.adv a1 (by simp)).sq A.W, by rw [List.length_map]; exact hrz, fun p n _ np => ?_⟩
    refine ⟨p, _, n, rfl, upd_same, fun ns p2 hs hm _ np2 => ?_⟩
    have e2 : ns = srtU (ri.map fun r => ((r : Nat) : Int)) := srtU_of hs hm
    subst e2
    rw [nV_srt]
    refine ⟨p2, _, rfl, .inl ⟨SqL.of upd_same, fun r nr => ?_⟩⟩
    have b2 := ((Adv.new (M := []) (o := SetO w p (fun j => decide (j ∈ ri.map fun r => ((r : Nat) : Int))) n) np).newT (o := .lst (nVl (srtN ri))) np2).newT (o := .tup (nVl (srtN ri))) nr
    have nr1 : H1 r = none := ((Adv.new (M := []) (o := SetO w p (fun j => decide (j ∈ ri.map fun r => ((r : Nat) : Int))) n) np).newT (o := .lst (nVl (srtN ri))) np2).free (by simp) nr
    have nr0 : H r = none := a1.free (by simp) nr1
    have hr2 : (upd (upd (upd H1 p (SetO w p (fun j => decide (j ∈ ri.map fun r => ((r : Nat) : Int))) n)) p2 (.lst (nVl (srtN ri)))) r (.tup (nVl (srtN ri)))) r = some (.tup (nVl (srtN ri))) := upd_same
    generalize (upd (upd (upd H1 p (SetO w p (fun j => decide (j ∈ ri.map fun r => ((r : Nat) : Int))) n)) p2 (.lst (nVl (srtN ri)))) r (.tup (nVl (srtN ri)))) = H2 at b2 hr2
    have a2 := a1.trans b2
    have hl2 := b2.same _ _ hl1
    clear np np2 nr hs hm a1 b2 hl1 nr1
    have sqp := (hpr.adv a2.nil).sq A.W
    walk_at "rd"
    refine ⟨pr, ps, rfl, .inr ⟨sqp, ?_⟩⟩
    walk_at "rd"
    refine ⟨by show 5 ≤ sizeLine; decide, fun t nt => ?_⟩
    have at_ : Adv [] H2 (upd H2 t (.tup [.ref l, .ref r, .str rule, .ref pr, .int main])) := Adv.new nt
    have a3 := a2.trans at_
    have hln3 := a3.same _ _ hln
    have tln : t ≠ ln := fun z => by rw [z, a2.same _ _ hln] at nt; cases nt
    have lln : l ≠ ln := fun z => by rw [z, hln] at nl0; cases nl0
    have rln : r ≠ ln := fun z => by rw [z, hln] at nr0; cases nr0
    walk_at "rd"
    refine rd_app hln3 (by rw [sizeLine_eq]; omega) ?_
    have hfin : (upd (upd H2 t (.tup [.ref l, .ref r, .str rule, .ref pr, .int main])) ln (.lst (xs ++ [.ref t]))) ln = some (.lst (xs ++ [.ref t])) := upd_same
    have q' := q t l r (upd (upd H2 t (.tup [.ref l, .ref r, .str rule, .ref pr, .int main])) ln (.lst (xs ++ [.ref t]))) (a2.free (by simp) nt) hfin tln (by rw [upd_ne tln]; exact upd_same) nl0 (by rw [upd_ne lln]; exact at_.same _ _ hl2) nr0 (by rw [upd_ne rln]; exact at_.same _ _ hr2) (a3.nil.trans (Adv.set (by simp)))
    walk_at "rd"
    have e : (((xs ++ [V.ref t]).length : Nat) : Int) - 1 = (xs.length : Nat) := by rw [List.length_append, List.length_singleton]; omega
    rw [e]
    exact q'
end

set_option Elab.async false
set_option linter.all false
set_option maxRecDepth 100000
set_option maxHeartbeats 4000000
open PySem PySem.Spec PyProof.Rows L2 LL
open C8 (pss_cut)
section
variable [KW]
variable {P : Program} {w : World} {K : PySem.W.Frag} {mg : Str → Option Value} {base : Heap}
/-! ### lines that are grown -/
/-- a line over n rows, its sides le and ri of at most S rows -/
structure GL1 (M : List Addr) (H : Hp) (n S : Nat) (v : V) (le ri : List Nat) : Prop where
  ex : ∃ (t l r : Addr) (a b c : V), v = .ref t ∧ H t = some (.tup [.ref l, .ref r, a, b, c]) ∧ t ∉ M ∧ H l = some (.tup (nVl le)) ∧ l ∉ M ∧ H r = some (.tup (nVl ri)) ∧ r ∉ M
  hl : ∀ x ∈ le, x < n
  hr : ∀ x ∈ ri, x < n
  nl : le.Nodup
  nr : ri.Nodup
  ll : le.length ≤ S
  lr : ri.length ≤ S
def GL (M : List Addr) (H : Hp) (n S : Nat) (v : V) : Prop := ∃ le ri, GL1 M H n S v le ri
theorem GL1.adv {M : List Addr} {H H' : Hp} {n S : Nat} {v : V} {le ri : List Nat} (x : GL1 M H n S v le ri) (a : Adv M H H') : GL1 M H' n S v le ri := by
  obtain ⟨t, l, r, a1, b, c, e, h1, m1, h2, m2, h3, m3⟩ := x.ex
  exact ⟨⟨t, l, r, a1, b, c, e, a _ _ m1 h1, m1, a _ _ m2 h2, m2, a _ _ m3 h3, m3⟩, x.hl, x.hr, x.nl, x.nr, x.ll, x.lr⟩
theorem GL1.mono {M : List Addr} {H : Hp} {n n' S S' : Nat} {v : V} {le ri : List Nat} (x : GL1 M H n S v le ri) (hn : n ≤ n') (hs : S ≤ S') : GL1 M H n' S' v le ri :=
  ⟨x.ex, fun y hy => Nat.lt_of_lt_of_le (x.hl y hy) hn, fun y hy => Nat.lt_of_lt_of_le (x.hr y hy) hn, x.nl, x.nr, Nat.le_trans x.ll hs, Nat.le_trans x.lr hs⟩
theorem GL.adv {M : List Addr} {H H' : Hp} {n S : Nat} {v : V} (x : GL M H n S v) (a : Adv M H H') : GL M H' n S v := let ⟨l, r, h⟩ := x; ⟨l, r, h.adv a⟩
theorem GL.mono {M : List Addr} {H : Hp} {n n' S S' : Nat} {v : V} (x : GL M H n S v) (hn : n ≤ n') (hs : S ≤ S') : GL M H n' S' v := let ⟨l, r, h⟩ := x; ⟨l, r, h.mono hn hs⟩
/-- the stream, the book and the lines -/
structure Gw (M : List Addr) (H : Hp) (s bk b0 b1 ln : Addr) (bx : Bool) (ns : List Nd) (vs : List V) (S : Nat) : Prop where
  D : Dw M H s bk b0 b1 bx ns
  ml : ln ∈ M
  n0 : ln ≠ s
  n1 : ln ≠ b0
  n2 : ln ≠ b1
  hl : H ln = some (.lst vs)
  ok : ∀ v ∈ vs, GL M H ns.length S v
section
variable {M : List Addr} {H H' : Hp} {s bk b0 b1 ln : Addr} {bx : Bool} {ns ns' : List Nd} {vs : List V} {S S' : Nat}
theorem Gw.al (x : Gw M H s bk b0 b1 ln bx ns vs S) : ∀ b ∈ M, H b ≠ none := fun b hb z => (x.D.free z).1 hb
theorem notin3 {p a b c : Addr} (h1 : p ≠ a) (h2 : p ≠ b) (h3 : p ≠ c) : p ∉ [a, b, c] := by simp [h1, h2, h3]
theorem Gw.draw {c r : Nat} (x : Gw M H s bk b0 b1 ln bx ns vs S) (d : Dn c M s bk b0 b1 bx ns H r ns' H') : Gw M H' s bk b0 b1 ln bx ns' vs S :=
  ⟨d.D, x.ml, x.n0, x.n1, x.n2, d.a _ _ (notin3 x.n0 x.n1 x.n2) x.hl, fun v hv => ((x.ok v hv).adv (d.a.more (by
    intro b hb
    rcases List.mem_cons.mp hb with rfl | hb
    · exact x.D.ms
    · rcases List.mem_cons.mp hb with rfl | hb
      · exact x.D.B.m0
      · rw [List.mem_singleton.mp hb]; exact x.D.B.m1))).mono d.ge (Nat.le_refl _)⟩
theorem Gw.next (x : Gw M H s bk b0 b1 ln bx ns vs S) (a : Adv [s] H H') (hs : StrAt M H' s) : Gw M H' s bk b0 b1 ln bx ns vs S :=
  ⟨x.D.next a hs, x.ml, x.n0, x.n1, x.n2, a _ _ (notin1 x.n0) x.hl, fun v hv => (x.ok v hv).adv (a.more (by simp [x.D.ms]))⟩
theorem Gw.same (x : Gw M H s bk b0 b1 ln bx ns vs S) (a : Adv [] H H') : Gw M H' s bk b0 b1 ln bx ns vs S := x.next a.nil (x.D.str.same a)
theorem Gw.mono (x : Gw M H s bk b0 b1 ln bx ns vs S) (h : S ≤ S') : Gw M H s bk b0 b1 ln bx ns vs S' :=
  ⟨x.D, x.ml, x.n0, x.n1, x.n2, x.hl, fun v hv => (x.ok v hv).mono (Nat.le_refl _) h⟩
theorem Gw.a4 (a : Adv [s, b0, b1] H H') : Adv [s, b0, b1, ln] H H' := a.more (by simp +contextual)
theorem GL1.fresh {p : Addr} {o : HO} {n : Nat} {v : V} {le ri : List Nat} (x : GL1 M H n S v le ri) (h : H p = none) : GL1 (p :: M) (upd H p o) n S v le ri := by
  obtain ⟨t, l, r, a1, b, c, e, h1, m1, h2, m2, h3, m3⟩ := x.ex
  have t1 : t ≠ p := ne_of_none h1 h
  have t2 : l ≠ p := ne_of_none h2 h
  have t3 : r ≠ p := ne_of_none h3 h
  exact ⟨⟨t, l, r, a1, b, c, e, by rw [upd_ne t1]; exact h1, by simp [t1, m1], by rw [upd_ne t2]; exact h2, by simp [t2, m2], by rw [upd_ne t3]; exact h3, by simp [t3, m3]⟩, x.hl, x.hr, x.nl, x.nr, x.ll, x.lr⟩
theorem GL1.put {p : Addr} {o : HO} {n : Nat} {v : V} {le ri : List Nat} (x : GL1 M H n S v le ri) (hp : p ∈ M) : GL1 M (upd H p o) n S v le ri :=
  x.adv (Adv.set hp)
theorem GL1.less {N : List Addr} {n : Nat} {v : V} {le ri : List Nat} (x : GL1 M H n S v le ri) (h : ∀ b ∈ N, b ∈ M) : GL1 N H n S v le ri := by
  obtain ⟨t, l, r, a1, b, c, e, h1, m1, h2, m2, h3, m3⟩ := x.ex
  exact ⟨⟨t, l, r, a1, b, c, e, h1, fun z => m1 (h _ z), h2, fun z => m2 (h _ z), h3, fun z => m3 (h _ z)⟩, x.hl, x.hr, x.nl, x.nr, x.ll, x.lr⟩
theorem Gw.fresh {p : Addr} {o : HO} (x : Gw M H s bk b0 b1 ln bx ns vs S) (h : H p = none) : Gw (p :: M) (upd H p o) s bk b0 b1 ln bx ns vs S :=
  ⟨x.D.fresh h, List.mem_cons_of_mem _ x.ml, x.n0, x.n1, x.n2, by rw [upd_ne (ne_of_none x.hl h)]; exact x.hl, fun v hv => let ⟨l, r, g⟩ := x.ok v hv; ⟨l, r, g.fresh h⟩⟩
theorem Gw.put {p : Addr} {o : HO} (x : Gw M H s bk b0 b1 ln bx ns vs S) (hp : p ∈ M) (h0 : p ≠ s) (h1 : p ≠ b0) (h2 : p ≠ b1) (h3 : p ≠ ln) : Gw M (upd H p o) s bk b0 b1 ln bx ns vs S :=
  ⟨x.D.put hp h0 h1 h2, x.ml, x.n0, x.n1, x.n2, by rw [upd_ne h3.symm]; exact x.hl, fun v hv => let ⟨l, r, g⟩ := x.ok v hv; ⟨l, r, g.put hp⟩⟩
theorem Gw.less {N : List Addr} (x : Gw M H s bk b0 b1 ln bx ns vs S) (h : ∀ b ∈ N, b ∈ M) (ms : s ∈ N) (m0 : b0 ∈ N) (m1 : b1 ∈ N) (ml : ln ∈ N) : Gw N H s bk b0 b1 ln bx ns vs S :=
  ⟨x.D.less h ms m0 m1, ml, x.n0, x.n1, x.n2, x.hl, fun v hv => let ⟨l, r, g⟩ := x.ok v hv; ⟨l, r, g.less h⟩⟩
theorem Gw.m3 (x : Gw M H s bk b0 b1 ln bx ns vs S) : ∀ b ∈ [s, b0, b1], b ∈ M := fun b hb => by
  rcases List.mem_cons.mp hb with rfl | hb
  · exact x.D.ms
  · rcases List.mem_cons.mp hb with rfl | hb
    · exact x.D.B.m0
    · rw [List.mem_singleton.mp hb]; exact x.D.B.m1
/-- a new line -/
theorem Gw.line (x : Gw M H s bk b0 b1 ln bx ns vs S) {t l r : Addr} {rule pr main : V} {le ri : List Nat} (nt : H t = none) (hln : H' ln = some (.lst (vs ++ [.ref t]))) (ht : H' t = some (.tup [.ref l, .ref r, rule, pr, main])) (nl : H l = none) (hl : H' l = some (.tup (nVl (srtN le)))) (nr : H r = none) (hr : H' r = some (.tup (nVl (srtN ri)))) (a : Adv [ln] H H')
    (kl : ∀ y ∈ le, y < ns.length) (kr : ∀ y ∈ ri, y < ns.length) (hle : le.length ≤ S') (hri : ri.length ≤ S') (hS : S ≤ S') : Gw M H' s bk b0 b1 ln bx ns (vs ++ [.ref t]) (min S' (max S ns.length)) ∧ GL1 M H' ns.length (min S' (max S ns.length)) (.ref t) (srtN le) (srtN ri) := by
  have lenb : ∀ q : List Nat, (∀ y ∈ q, y < ns.length) → (srtN q).length ≤ ns.length := fun q hq => by
    have nd : (srtN q).Nodup := (srtN_asc q).imp fun h e => by omega
    exact nodup_lt nd fun y hy => hq y (srtN_mem.mp hy)
  have new : GL1 M H' ns.length (min S' (max S ns.length)) (.ref t) (srtN le) (srtN ri) := ⟨⟨t, l, r, rule, pr, main, rfl, ht, fun z => x.al t z nt, hl, fun z => x.al l z nl, hr, fun z => x.al r z nr⟩, fun y hy => kl y (srtN_mem.mp hy), fun y hy => kr y (srtN_mem.mp hy), (srtN_asc le).imp fun h e => by omega, (srtN_asc ri).imp fun h e => by omega, by have := srtN_len le; have := lenb le kl; omega, by have := srtN_len ri; have := lenb ri kr; omega⟩
  refine ⟨⟨?_, x.ml, x.n0, x.n1, x.n2, hln, fun v hv => ?_⟩, new⟩
  · exact ⟨x.D.str.adv a (notin1 x.n0.symm) (by simp [x.ml]), a _ _ (fun z => x.D.kM (by rw [List.mem_singleton.mp z]; exact x.ml)) x.D.hbk, x.D.ms, x.D.kM, x.D.s0, x.D.s1, x.D.B.adv a (by simpa using x.n1.symm) (by simpa using x.n2.symm) (by simp [x.ml]) (by simp [hln]), x.D.ok⟩
  · rcases List.mem_append.mp hv with hv | hv
    · exact ((x.ok v hv).adv (a.more (by simp [x.ml]))).mono (Nat.le_refl _) (by omega)
    · rw [List.mem_singleton.mp hv]
      exact ⟨_, _, new⟩
end
/-! ### _law_part -/
structure PrtP (vs : List V) (H : Hp) (Q : VK) : Prop where
  ex : ∃ (M : List Addr) (s bk b0 b1 r : Addr) (bx : Bool) (ns : List Nd) (l : List Nat) (letters : Int), vs = [.ref s, .ref bk, .ref r, .int letters] ∧ Dw M H s bk b0 b1 bx ns ∧ H r = some (.tup (nVl l)) ∧ (∀ y ∈ l, y < ns.length) ∧ l.length ≤ 1000000 ∧ 0 < letters ∧ letters ≤ 8 ∧ ns.length ≤ 900000 ∧
    ∀ j ns' H', Dn 1 M s bk b0 b1 bx ns H j ns' H' → Q (.int (j : Nat)) H'
def spPrt : Sp := fun vs H Q _ => PrtP vs H Q
theorem ok_law_part (A : All K mg w) : FnOk P w K mg base CX0 3 A.law_part.f A.law_part.fd ["stream", "book", "rows", "letters"] spPrt := by
  refine A.law_part.F.ok sc_law_part (fun vs H Q E h => ?_) (fun cdv Ar outer s H vs Q E hr h => ?_)
  · obtain ⟨M, s, bk, b0, b1, r, bx, ns, l, letters, rfl, _⟩ := h.ex
    rfl
  · obtain ⟨M, st, bk, b0, b1, r, bx, ns, l, letters, rfl, D, hr1, hl, hlz, l0, l1, hz, q⟩ := h.ex
    refine ⟨_, (pss_one (ps_ret (pe_ifExp (pt_cmpR op_gt (pe_callB call_len_seq (by rfl) A.T.len PySem.boot_len (pa_cons (pv 2) pa_nil)) pe_int (nomark _)) (pe_call (ok_law_pick A) (hr.mono (by omega)) rfl A.law_pick.m A.law_pick.F.kp A.law_pick.b .nil pass0 (pa_cons (pv 0) (pa_cons (pv 2) pa_nil))) (pe_call (ok_law_row A) (hr.mono (by omega)) rfl A.law_row.m A.law_row.F.kp A.law_row.b .nil pass0 (pa_cons (pv 1) (pa_cons (pe_tup (pa_cons pe_str (pa_cons (pe_call (ok_law_next A) (hr.mono (by omega)) rfl A.law_next.m A.law_next.F.kp A.law_next.b .nil pass0 (pa_cons (pv 0) (pa_cons (pv 3) pa_nil))) pa_nil))) pa_nil)))))), ?_⟩
    have rs : r ≠ st := fun z => by
      obtain ⟨li, ns, c, k, h1, _⟩ := D.str
      rw [← z, hr1] at h1
      cases h1
    walk_at "rd"
    refine iteB (fun e => ?_) (fun e => ?_)
    · have ne : nVl l ≠ [] := fun z => by
        rw [z] at e
        exact absurd e (by decide)
      walk_at "rd"
      refine ⟨st, r, nVl l, M, rfl, D.str, .inr hr1, rs, ne, by rw [nVl_ln]; omega, fun x H2 hx hs2 a2 => ?_⟩
      obtain ⟨i, hi⟩ := List.mem_iff_getElem?.mp hx
      obtain ⟨j, hj, rfl⟩ := nVl_gt hi
      exact q j ns H2 ⟨List.prefix_refl _, hl j (List.mem_of_getElem? hj), by omega, D.next a2 hs2, a_s a2⟩
    · walk_at "rd"
      refine ⟨st, letters, M, rfl, D.str, l0, by omega, fun x H2 x0 x1 hs2 a2 => ?_⟩
      have D2 := D.next a2 hs2
      obtain ⟨j, rfl⟩ : ∃ j : Nat, x = (j : Int) := ⟨x.toNat, by omega⟩
      walk_at "rd"
      refine ⟨by show 2 ≤ sizeLine; decide, fun p np => ?_⟩
      walk_at "rd"
      exact row_dn (.letter j) D2 np (by simp only [Nd.ok, decide_eq_true_eq]; omega) hz (List.prefix_refl _) (by omega) (a_s a2) q
end

set_option Elab.async false
set_option linter.all false
set_option maxRecDepth 100000
set_option maxHeartbeats 4000000
open PySem PySem.Spec PyProof.Rows L2 LL
open C8 (pss_cut)
section
variable [KW]
variable {P : Program} {w : World} {K : PySem.W.Frag} {mg : Str → Option Value} {base : Heap}
/-- an expression cut off: what its value fulfils is enough -/
def tCutE (te : TE) : TE := fun σ H Q => ∃ R : VK, te σ H R ∧ ∀ x H', R x H' → Q x H'
theorem pe_cut {X : Cx} {e : Expr} {te : TE} (h : PE X e te) : PE X e (tCutE te) := by
  refine ⟨fun pins s σ H R I q => ?_⟩
  obtain ⟨R', h1, h2⟩ := q
  exact thn (h.run pins s σ H _ I h1) fun v s1 ⟨x, H1, I1, r, q1⟩ => ⟨x, H1, I1, r, h2 _ _ q1⟩
/-! ### _law_base -/
structure BasP (vs : List V) (H : Hp) (Q : VK) : Prop where
  ex : ∃ (M : List Addr) (s bk b0 b1 ln : Addr) (x : Str) (ns : List Nd) (us : List V) (S : Nat) (letters : Int) (one : Bool), vs = [.ref s, .str x, .ref bk, .ref ln, .int letters, .bl one] ∧ Gw M H s bk b0 b1 ln (logicB x) ns us S ∧ 0 < letters ∧ letters ≤ 8 ∧ ns.length ≤ 100000 ∧ us.length ≤ 900000 ∧
    ∀ v ns' H', ns.length ≤ ns'.length → ns'.length ≤ ns.length + 9 → Gw M H' s bk b0 b1 ln (logicB x) ns' (us ++ [v]) (max S 2) → Adv [s, b0, b1, ln] H H' → Q (.int (us.length : Nat)) H'
def spBas : Sp := fun vs H Q _ => BasP vs H Q
theorem ok_law_base (A : All K mg w) : FnOk P w K mg base CX0 7 A.law_base.f A.law_base.fd ["stream", "logic", "book", "lines", "letters", "one"] spBas := by
  refine A.law_base.F.ok sc_law_base (fun vs H Q E h => ?_) (fun cdv Ar outer s H vs Q E hr h => ?_)
  · obtain ⟨M, s, bk, b0, b1, ln, x, ns, us, S, letters, one, rfl, _⟩ := h.ex
    rfl
  · obtain ⟨M, st, bk, b0, b1, ln, x, ns, us, S, letters, one, rfl, G, l0, l1, hz, hu, q⟩ := h.ex
    refine ⟨_, (pss_cons (ps_set (i := 6) sc_law_base.nd rfl (Or.inl rfl) (pe_call (ok_law_is_boxed A) (hr.mono (by omega)) rfl A.law_is_boxed.m A.law_is_boxed.F.kp A.law_is_boxed.b .nil pass0 (pa_cons (pv 1) pa_nil)))
  (pss_cons (ps_set (i := 7) sc_law_base.nd rfl (Or.inl rfl) (pe_call (ok_law_tree A 3) (hr.mono (by omega)) rfl A.law_tree.m A.law_tree.F.kp A.law_tree.b .nil pass0 (pa_cons (pv 0) (pa_cons (pv 2) (pa_cons (pv 4) (pa_cons (pe_call (ok_law_next A) (hr.mono (by omega)) rfl A.law_next.m A.law_next.F.kp A.law_next.b .nil pass0 (pa_cons (pv 0) (pa_cons pe_int pa_nil))) (pa_cons (pv 6) pa_nil)))))))
  (pss_cut (ps_set (i := 8) sc_law_base.nd rfl (Or.inl rfl) (pe_ifExp (pt_cmpR op_eq (pe_call (ok_law_next A) (hr.mono (by omega)) rfl A.law_next.m A.law_next.F.kp A.law_next.b .nil pass0 (pa_cons (pv 0) (pa_cons pe_int pa_nil))) pe_int (nomark _)) (pe_lst (pa_cons (pe_call (ok_law_tree A 3) (hr.mono (by omega)) rfl A.law_tree.m A.law_tree.F.kp A.law_tree.b .nil pass0 (pa_cons (pv 0) (pa_cons (pv 2) (pa_cons (pv 4) (pa_cons (pe_call (ok_law_next A) (hr.mono (by omega)) rfl A.law_next.m A.law_next.F.kp A.law_next.b .nil pass0 (pa_cons (pv 0) (pa_cons pe_int pa_nil))) (pa_cons (pv 6) pa_nil)))))) pa_nil)) (pe_lst pa_nil)))
  (pss_cons (ps_if (pt_cmpR op_eq (pe_call (ok_law_next A) (hr.mono (by omega)) rfl A.law_next.m A.law_next.F.kp A.law_next.b .nil pass0 (pa_cons (pv 0) (pa_cons pe_int pa_nil))) pe_int (nomark _))
    (pss_one (ps_ret (pe_call (ok_law_line A) (hr.mono (by omega)) rfl A.law_line.m A.law_line.F.kp A.law_line.b .nil pass0 (pa_cons (pv 3) (pa_cons (pe_op op_cat (pe_lst (pa_cons (pe_call (ok_law_row A) (hr.mono (by omega)) rfl A.law_row.m A.law_row.F.kp A.law_row.b .nil pass0 (pa_cons (pv 2) (pa_cons (pe_tup (pa_cons pe_str pa_nil)) pa_nil))) pa_nil)) (pv 8)) (pa_cons (pe_lst (pa_cons (pv 7) pa_nil)) (pa_cons pe_str (pa_cons (pe_tup pa_nil) (pa_cons (pe_un un_neg pe_int) pa_nil)))))))))
    pss_nil)
  (pss_one (ps_ret (pe_call (ok_law_line A) (hr.mono (by omega)) rfl A.law_line.m A.law_line.F.kp A.law_line.b .nil pass0 (pa_cons (pv 3) (pa_cons (pe_op op_cat (pe_lst (pa_cons (pv 7) pa_nil)) (pv 8)) (pa_cons (pe_cut (pe_ifExp (PW.pt (pw_or (pt_val (pv 5)) (pw_or1 (pt_cmpR op_eq (pe_call (ok_law_next A) (hr.mono (by omega)) rfl A.law_next.m A.law_next.F.kp A.law_next.b .nil pass0 (pa_cons (pv 0) (pa_cons pe_int pa_nil))) pe_int (nomark _))))) (pe_lst (pa_cons (pv 7) pa_nil)) (pe_op op_cat (pe_lst (pa_cons (pv 7) pa_nil)) (pv 8)))) (pa_cons pe_str (pa_cons (pe_tup pa_nil) (pa_cons (pv 7) pa_nil))))))))))))), ?_⟩
    walk_at "rd"
    refine ⟨x, rfl, fun H1 a1 => ?_⟩
    have G1 := G.same a1
    walk_at "rd"
    refine ⟨st, 3, M, rfl, G1.D.str, by decide, by decide, fun k1 H2 k10 k11 hs2 a2 => ?_⟩
    have G2 := G1.next a2 hs2
    walk_at "rd"
    refine ⟨⟨M, st, bk, b0, b1, logicB x, ns, letters, k1, rfl, G2.D, l0, l1, k10, by show (k1 : Int) ≤ 3; omega, by decide, by omega, fun row ns1 H3 d3 => ?_⟩⟩
    have G3 := G2.draw d3
    have e3 := d3.le
    have g3 := d3.ge
    have r3 := d3.lt
    have a13 : Adv [st, b0, b1] H H3 := (a1.nil.trans (a_s a2)).trans d3.a
    walk_at "rd"
    refine ⟨fun σ' H' => ∃ (mo : Addr) (ls : List Nat) (ns2 : List Nd), σ' = [some (.ref st), some (.str x), some (.ref bk), some (.ref ln), some (.int letters), some (.bl one), some (.bl (logicB x)), some (.int (row : Nat)), some (.ref mo)] ∧ H' mo = some (.lst (nVl ls)) ∧ mo ∉ M ∧ (∀ y ∈ ls, y < ns2.length) ∧ ls.length ≤ 1 ∧ ns1.length ≤ ns2.length ∧ ns2.length ≤ ns.length + 8 ∧ Gw M H' st bk b0 b1 ln (logicB x) ns2 us S ∧ Adv [st, b0, b1] H H', ?_, ?_⟩
    · walk_at "rd"
      refine ⟨st, 3, M, rfl, G3.D.str, by decide, by decide, fun d H4 d0 d1 hs4 a4 => ?_⟩
      have G4 := G3.next a4 hs4
      walk_at "rd"
      refine iteB (fun e => ?_) (fun e => ?_)
      · walk_at "rd"
        refine ⟨st, 2, M, rfl, G4.D.str, by decide, by decide, fun k2 H5 k20 k21 hs5 a5 => ?_⟩
        have G5 := G4.next a5 hs5
        walk_at "rd"
        refine ⟨⟨M, st, bk, b0, b1, logicB x, ns1, letters, k2, rfl, G5.D, l0, l1, k20, by show (k2 : Int) ≤ 3; omega, by decide, by omega, fun row2 ns2 H6 d6 => ?_⟩⟩
        have G6 := G5.draw d6
        have e6 := d6.le
        have g6 := d6.ge
        have r6 := d6.lt
        walk_at "rd"
        refine ⟨by show 1 ≤ sizeLine; decide, fun p np => ?_⟩
        have ap : Adv [] H6 (upd H6 p (.lst [.int (row2 : Nat)])) := Adv.new np
        exact ⟨p, [row2], ns2, rfl, upd_same, not_mem_new G6.al np, by simpa using r6, by simp, g6, by omega, G6.same ap, ((a13.trans (a_s a4)).trans (a_s a5)).trans (d6.a.trans ap.nil)⟩
      · walk_at "rd"
        refine ⟨Nat.zero_le _, fun p np => ?_⟩
        have ap : Adv [] H4 (upd H4 p (.lst [])) := Adv.new np
        exact ⟨p, [], ns1, rfl, upd_same, not_mem_new G4.al np, by simp, by simp, Nat.le_refl _, by omega, G4.same ap, (a13.trans (a_s a4)).trans ap.nil⟩
    rintro σ' H4 ⟨mo, ls, ns2, rfl, hmo, moM, hls, lsl, g4, e4, G4, a04⟩
    clear G G1 G2 G3 a1 a2 a13 d3
    walk_at "rd"
    refine ⟨st, 6, M, rfl, G4.D.str, by decide, by decide, fun d H5 d0 d1 hs5 a5 => ?_⟩
    have G5 := G4.next a5 hs5
    have a05 := a04.trans (a_s a5)
    have hmo5 := a5 _ _ (notin1 (fun z => moM (by rw [z]; exact G4.D.ms))) hmo
    walk_at "rd"
    refine iteB (fun e => ?_) (fun e => ?_)
    · walk_at "rd"
      refine ⟨by show 1 ≤ sizeLine; decide, fun p np => ?_⟩
      walk_at "rd"
      refine row_dn (c := 1) .no G5.D np rfl (by omega) (List.prefix_refl _) (by omega) (a_s (Adv.refl _ _)) fun r ns3 H6 d6 => ?_
      have G6 := G5.draw d6
      have e6 := d6.le
      have g6 := d6.ge
      have r6 := d6.lt
      have a06 := a05.trans d6.a
      have hmo6 := d6.a _ _ (notin3 (fun z => moM (by rw [z]; exact G5.D.ms)) (fun z => moM (by rw [z]; exact G5.D.B.m0)) (fun z => moM (by rw [z]; exact G5.D.B.m1))) hmo5
      walk_at "rd"
      refine ⟨by show 1 ≤ sizeLine; decide, fun p1 n1 => ?_⟩
      have c1 : Adv [] H6 (upd H6 p1 (.lst [.int (r : Nat)])) := Adv.new n1
      have mp : mo ≠ p1 := ne_of_none hmo6 n1
      have hmo7 : (upd H6 p1 (.lst [.int (r : Nat)])) mo = some (.lst (nVl ls)) := by rw [upd_ne mp]; exact hmo6
      walk_at "rd"
      refine ⟨p1, mo, _, _, rfl, rfl, upd_same, hmo7, by rw [sizeLine_eq, nVl_ln, List.length_singleton]; omega, fun p2 n2 => ?_⟩
      have c2 := c1.newT (o := .lst ([.int (r : Nat)] ++ nVl ls)) n2
      have h2 : (upd (upd H6 p1 (.lst [.int (r : Nat)])) p2 (.lst ([.int (r : Nat)] ++ nVl ls))) p2 = some (.lst (nVl (r :: ls))) := upd_same
      generalize (upd (upd H6 p1 (.lst [.int (r : Nat)])) p2 (.lst ([.int (r : Nat)] ++ nVl ls))) = H7 at c2 h2
      walk_at "rd"
      refine ⟨by show 1 ≤ sizeLine; decide, fun p3 n3 => ?_⟩
      have c3 := c2.newT (o := .lst [.int (row : Nat)]) n3
      have h3 : (upd H7 p3 (.lst [.int (row : Nat)])) p3 = some (.lst (nVl [row])) := upd_same
      have h2 := (Adv.new (M := []) (o := .lst [.int (row : Nat)]) n3).same _ _ h2
      generalize (upd H7 p3 (.lst [.int (row : Nat)])) = H8 at c3 h2 h3
      walk_at "rd"
      refine ⟨Nat.zero_le _, fun p4 n4 => ?_⟩
      have c4 := c3.newT (o := .tup []) n4
      have G8 := G6.same c4
      have h2 := (Adv.new (M := []) (o := .tup []) n4).same _ _ h2
      have h3 := (Adv.new (M := []) (o := .tup []) n4).same _ _ h3
      have h4 : (upd H8 p4 (.tup [])) p4 = some (.tup []) := upd_same
      have p4M : p4 ∉ M := not_mem_new (G6.same c3).al n4
      generalize (upd H8 p4 (.tup [])) = H9 at c4 G8 h2 h3 h4
      walk_at "rd"
      refine ⟨⟨M, ln, p2, p3, p4, "no", -1, us, [], r :: ls, [row], rfl, G8.al, G8.hl, by omega, .inl h2, .inl h3, by simp; omega, by simp, Tp.of h4 p4M, fun t l r' H10 nt hln tln ht nl hl nr hr a10 => ?_⟩⟩
      have GF := G8.line (S' := max S 2) nt hln ht nl hl nr hr a10 (fun y hy => by
        rcases List.mem_cons.mp hy with rfl | hy
        · exact r6
        · have := hls y hy; omega) (by simp; omega) (by simp; omega) (by simp; omega) (by omega)
      exact q (.ref t) ns3 H10 (by omega) (by omega) (GF.1.mono (by omega)) (((Gw.a4 a06).trans c4.nil).trans (a10.more (by simp)))
    · walk_at "rd"
      refine ⟨by show 1 ≤ sizeLine; decide, fun p1 n1 => ?_⟩
      have c1 : Adv [] H5 (upd H5 p1 (.lst [.int (row : Nat)])) := Adv.new n1
      have mp : mo ≠ p1 := ne_of_none hmo5 n1
      have hmo7 : (upd H5 p1 (.lst [.int (row : Nat)])) mo = some (.lst (nVl ls)) := by rw [upd_ne mp]; exact hmo5
      walk_at "rd"
      refine ⟨p1, mo, _, _, rfl, rfl, upd_same, hmo7, by rw [sizeLine_eq, nVl_ln, List.length_singleton]; omega, fun p2 n2 => ?_⟩
      have c2 := c1.newT (o := .lst ([.int (row : Nat)] ++ nVl ls)) n2
      have h2 : (upd (upd H5 p1 (.lst [.int (row : Nat)])) p2 (.lst ([.int (row : Nat)] ++ nVl ls))) p2 = some (.lst (nVl (row :: ls))) := upd_same
      have p2M : p2 ∉ M := not_mem_new (G5.same c1).al n2
      have hmo8 := (Adv.new (M := []) (o := .lst ([.int (row : Nat)] ++ nVl ls)) n2).same _ _ hmo7
      generalize (upd (upd H5 p1 (.lst [.int (row : Nat)])) p2 (.lst ([.int (row : Nat)] ++ nVl ls))) = H7 at c2 h2 hmo8
      have G7 := G5.same c2
      have a07 := a05.trans c2.nil
      have hrow : row < ns2.length := by omega
      walk_at "rd"
      refine ⟨fun v H' => ∃ (l : Addr) (le : List Nat), v = .ref l ∧ H' l = some (.lst (nVl le)) ∧ le.length ≤ 2 ∧ (∀ y ∈ le, y < ns2.length) ∧ H' p2 = some (.lst (nVl (row :: ls))) ∧ Gw M H' st bk b0 b1 ln (logicB x) ns2 us S ∧ Adv [st, b0, b1] H H', ?_, ?_⟩
      · walk_at "rd"
        have one1 : ∀ {H9 : Hp} {p : Addr}, Adv [st] H7 H9 → StrAt M H9 st → H9 p = none → ∃ (l : Addr) (le : List Nat), V.ref p = .ref l ∧ (upd H9 p (.lst [.int (row : Nat)])) l = some (.lst (nVl le)) ∧ le.length ≤ 2 ∧ (∀ y ∈ le, y < ns2.length) ∧ (upd H9 p (.lst [.int (row : Nat)])) p2 = some (.lst (nVl (row :: ls))) ∧ Gw M (upd H9 p (.lst [.int (row : Nat)])) st bk b0 b1 ln (logicB x) ns2 us S ∧ Adv [st, b0, b1] H (upd H9 p (.lst [.int (row : Nat)])) := fun {H9 p} a9 hs9 np => by
          have cp : Adv [] H9 (upd H9 p (.lst [.int (row : Nat)])) := Adv.new np
          exact ⟨p, [row], rfl, upd_same, by simp, by simpa using hrow, cp.same _ _ (a9 _ _ (notin1 (fun z => p2M (by rw [z]; exact G5.D.ms))) h2), (G7.next a9 hs9).same cp, (a07.trans (a_s a9)).trans cp.nil⟩
        cases one with
        | true =>
          walk_at "rd"
          refine ⟨by show 1 ≤ sizeLine; decide, fun p np => ?_⟩
          exact one1 (Adv.refl _ _) G7.D.str np
        | false =>
          walk_at "rd"
          refine ⟨st, 2, M, rfl, G7.D.str, by decide, by decide, fun d H9 d0 d1 hs9 a9 => ?_⟩
          walk_at "rd"
          refine iteB (fun e => ?_) (fun e => ?_)
          · walk_at "rd"
            refine ⟨by show 1 ≤ sizeLine; decide, fun p np => ?_⟩
            exact one1 a9 hs9 np
          · walk_at "rd"
            refine ⟨by show 1 ≤ sizeLine; decide, fun p np => ?_⟩
            have cp : Adv [] H9 (upd H9 p (.lst [.int (row : Nat)])) := Adv.new np
            have hmo9 := a9 _ _ (notin1 (fun z => moM (by rw [z]; exact G5.D.ms))) hmo8
            have mp9 : mo ≠ p := ne_of_none hmo9 np
            walk_at "rd"
            refine ⟨p, mo, _, _, rfl, rfl, upd_same, by rw [upd_ne mp9]; exact hmo9, by rw [sizeLine_eq, nVl_ln, List.length_singleton]; omega, fun p5 n5 => ?_⟩
            have cq := cp.newT (o := .lst ([.int (row : Nat)] ++ nVl ls)) n5
            exact ⟨p5, row :: ls, rfl, upd_same, by simp; omega, fun y hy => by
              rcases List.mem_cons.mp hy with rfl | hy
              · exact hrow
              · exact hls y hy, cq.same _ _ (a9 _ _ (notin1 (fun z => p2M (by rw [z]; exact G5.D.ms))) h2), (G7.next a9 hs9).same cq, (a07.trans (a_s a9)).trans cq.nil⟩
      · rintro v H8 ⟨l, le, rfl, hle, lle, ble, h2, G8, a08⟩
        walk_at "rd"
        refine ⟨Nat.zero_le _, fun p4 n4 => ?_⟩
        have c4 : Adv [] H8 (upd H8 p4 (.tup [])) := Adv.new n4
        have G9 := G8.same c4
        have h2 := c4.same _ _ h2
        have h3 := c4.same _ _ hle
        have h4 : (upd H8 p4 (.tup [])) p4 = some (.tup []) := upd_same
        have p4M : p4 ∉ M := not_mem_new G8.al n4
        generalize (upd H8 p4 (.tup [])) = H9 at c4 G9 h2 h3 h4
        walk_at "rd"
        refine ⟨⟨M, ln, p2, l, p4, "axiom", (row : Nat), us, [], row :: ls, le, rfl, G9.al, G9.hl, by omega, .inl h2, .inl h3, by simp; omega, by omega, Tp.of h4 p4M, fun t l r' H10 nt hln tln ht nl hl nr hr a10 => ?_⟩⟩
        have GF := G9.line (S' := max S 2) nt hln ht nl hl nr hr a10 (fun y hy => by
          rcases List.mem_cons.mp hy with rfl | hy
          · exact hrow
          · exact hls y hy) ble (by simp; omega) (by omega) (by omega)
        exact q (.ref t) ns2 H10 (by omega) (by omega) (GF.1.mono (by omega)) (((Gw.a4 a08).trans c4.nil).trans (a10.more (by simp)))
end

set_option Elab.async false
set_option linter.all false
set_option maxRecDepth 100000
set_option maxHeartbeats 4000000
open PySem PySem.Spec PyProof.Rows L2 LL
open C8 (pss_cut)
section
variable [KW]
variable {P : Program} {w : World} {K : PySem.W.Frag} {mg : Str → Option Value} {base : Heap}
theorem filt_lt {l : List Nat} {r : Nat} (h : r ∈ l) : (l.filter fun (k : Nat) => decide (((k : Nat) : Int) ≠ (r : Nat))).length + 1 ≤ l.length := by
  have h1 : (l.filter fun (k : Nat) => decide (((k : Nat) : Int) ≠ (r : Nat))).length < l.length := by
    rw [List.length_filter_lt_length_iff_exists]
    exact ⟨r, h, by simp⟩
  omega
theorem drop_ne {le : List Nat} (nd : le.Nodup) {i row : Nat} (h : le[i]? = some row) : row ∈ le.drop i ∧ ∀ y ∈ le.drop (i + 1), y ∈ le.drop i ∧ y ≠ row := by
  obtain ⟨il, e⟩ := List.getElem?_eq_some_iff.mp h
  have ed := List.drop_eq_getElem_cons il
  rw [e] at ed
  have nd' : (le.drop i).Nodup := nd.sublist (List.drop_sublist i le)
  rw [ed] at nd' ⊢
  exact ⟨List.mem_cons_self, fun y hy => ⟨List.mem_cons_of_mem _ hy, fun z => (List.nodup_cons.mp nd').1 (z ▸ hy)⟩⟩
/-- a row of the book -/
theorem Gw.node {M : List Addr} {H : Hp} {s bk b0 b1 ln : Addr} {bx : Bool} {ns : List Nd} {vs : List V} {S : Nat} (x : Gw M H s bk b0 b1 ln bx ns vs S) {r : Nat} (hr : r < ns.length) : ∃ (rs : List V) (na : Addr) (tg : Str) (ks : List V), H b0 = some (.lst rs) ∧ rs[r]? = some (.ref na) ∧ Tp M H na (.str tg :: ks) := by
  obtain ⟨rs, h1, h2⟩ := x.D.B.rows
  obtain ⟨v, h3, h4⟩ := h2.get (i := r) (d := (ns[r]).data) (by rw [List.getElem?_map, List.getElem?_eq_getElem hr]; rfl)
  obtain ⟨a, rfl, h5⟩ := nd_is h4
  refine ⟨rs, a, ?_⟩
  cases e : ns[r] <;> rw [e] at h5 <;> exact ⟨_, _, h1, h3, h5⟩
/-- what the loop keeps -/
structure GbxI (M : List Addr) (H : Hp) (st bk b0 b1 ln Nw Rw : Addr) (x : Str) (j main : Nat) (ns2 : List Nd) (us : List V) (S : Nat) (le : List Nat) (i : Nat) (σ' : L2.St) (H' : Hp) : Prop where
  ex : ∃ (at1 : Nat) (nw : List Nat) (ns' : List Nd) (us' : List V) (v1 : V) (le' ri' : List Nat) (y9 y10 : Option V), σ' = [some (.ref st), some (.str x), some (.ref bk), some (.ref ln), some (.int (at1 : Nat)), some (.int (j : Nat)), some (.int (main : Nat)), some (.ref Nw), some (.ref Rw), y9, y10] ∧ H' Nw = some (.lst (nVl nw)) ∧ H' Rw = some (.lst (nVl le)) ∧
        Gw (Nw :: M) H' st bk b0 b1 ln (logicB x) ns' us' (max S 1) ∧ us'[at1]? = some v1 ∧ GL1 (Nw :: M) H' ns'.length (max S 1) v1 le' ri' ∧ (x = "s4" → ∀ y ∈ le.drop i, y ∈ le') ∧ nw.length ≤ i ∧ (∀ y ∈ nw, y < ns'.length) ∧ ns2.length ≤ ns'.length ∧ ns'.length ≤ ns2.length + i ∧ us.length ≤ us'.length ∧ us'.length ≤ us.length + i ∧ Adv [st, b0, b1, ln] H H'
/-- a turn's end: some rows are put into the new list -/
theorem GbxI.put {M : List Addr} {H : Hp} {st bk b0 b1 ln Nw Rw : Addr} {x : Str} {j main : Nat} {ns2 : List Nd} {us : List V} {S : Nat} {le : List Nat} {i at2 : Nat} {H9 : Hp} {nw zs : List Nat} {ns3 : List Nd} {us3 : List V} {v2 : V} {le2 ri2 : List Nat} {y9 y10 : Option V}
    (hN : H9 Nw = some (.lst (nVl nw))) (hR : H9 Rw = some (.lst (nVl le))) (G : Gw (Nw :: M) H9 st bk b0 b1 ln (logicB x) ns3 us3 (max S 1)) (e : us3[at2]? = some v2) (L : GL1 (Nw :: M) H9 ns3.length (max S 1) v2 le2 ri2) (hin : x = "s4" → ∀ y ∈ le.drop (i + 1), y ∈ le2) (nwl : nw.length ≤ i) (hnw : ∀ y ∈ nw, y < ns3.length)
    (zl : zs.length ≤ 1) (hz : ∀ y ∈ zs, y < ns3.length) (k1 : ns2.length ≤ ns3.length) (k2 : ns3.length ≤ ns2.length + (i + 1)) (k3 : us.length ≤ us3.length) (k4 : us3.length ≤ us.length + (i + 1)) (a : Adv [st, b0, b1, ln] H H9) (n00 : H Nw = none) (NR : Nw ≠ Rw) (n1 : Nw ≠ st) (n2 : Nw ≠ b0) (n3 : Nw ≠ b1) (n4 : Nw ≠ ln) :
    GbxI M H st bk b0 b1 ln Nw Rw x j main ns2 us S le (i + 1) [some (.ref st), some (.str x), some (.ref bk), some (.ref ln), some (.int (at2 : Nat)), some (.int (j : Nat)), some (.int (main : Nat)), some (.ref Nw), some (.ref Rw), y9, y10] (upd H9 Nw (.lst (nVl nw ++ nVl zs))) :=
  ⟨⟨at2, nw ++ zs, ns3, us3, v2, le2, ri2, y9, y10, rfl, by rw [nVl_app]; exact upd_same, by rw [upd_ne NR.symm]; exact hR, G.put (List.mem_cons_self) n1 n2 n3 n4, e, L.put (List.mem_cons_self), hin, by rw [List.length_append]; omega, fun y hy => (List.mem_append.mp hy).elim (hnw y) (hz y), k1, k2, k3, k4, a.mut n00⟩⟩
/-! ### _law_grow_box -/
structure GbxP (vs : List V) (H : Hp) (Q : VK) : Prop where
  ex : ∃ (M : List Addr) (s bk b0 b1 ln : Addr) (x : Str) (ns : List Nd) (us : List V) (S at_ j : Nat), vs = [.ref s, .str x, .ref bk, .ref ln, .int (at_ : Nat), .int (j : Nat)] ∧ Gw M H s bk b0 b1 ln (logicB x) ns us S ∧ at_ < us.length ∧ j < ns.length ∧ ns.length ≤ 100000 ∧ us.length ≤ 500000 ∧ S ≤ 1900 ∧
    (∀ H', Gw M H' s bk b0 b1 ln (logicB x) ns us S → Adv [s, b0, b1, ln] H H' → Q (.int (-1)) H') ∧
    ∀ (r : Nat) ns' us' H', ns.length ≤ ns'.length → ns'.length ≤ ns.length + S + 1 → us.length ≤ us'.length → us'.length ≤ us.length + S + 1 → Gw M H' s bk b0 b1 ln (logicB x) ns' us' (max S 1) → Adv [s, b0, b1, ln] H H' → Q (.int r) H'
def spGbx : Sp := fun vs H Q _ => GbxP vs H Q
theorem ok_law_grow_box (A : All K mg w) : FnOk P w K mg base CX0 3 A.law_grow_box.f A.law_grow_box.fd ["stream", "logic", "book", "lines", "at", "j"] spGbx := by
  refine A.law_grow_box.F.ok sc_law_grow_box (fun vs H Q E h => ?_) (fun cdv Ar outer s H vs Q E hr h => ?_)
  · obtain ⟨M, s, bk, b0, b1, ln, x, ns, us, S, at_, j, rfl, _⟩ := h.ex
    rfl
  · obtain ⟨M, st, bk, b0, b1, ln, x, ns, us, S, at_, j, rfl, G, hat, hj, hz, hu, hS, q1, q⟩ := h.ex
    refine ⟨_, (pss_cut (ps_if (PW.pt (pw_or (pt_cmpR op_gt (pe_callB call_len_seq (by rfl) A.T.len PySem.boot_len (pa_cons (pe_ix ix_tup (pe_ix (ix_listK K rfl) (pv 3) (pv 4) (fun _ _ => rfl)) pe_int (fun _ _ => rfl)) pa_nil)) pe_int (nomark _)) (pw_or1 (pt_not (pt_val (pe_call (ok_law_is_boxed A) (hr.mono (by omega)) rfl A.law_is_boxed.m A.law_is_boxed.F.kp A.law_is_boxed.b .nil pass0 (pa_cons (pv 1) pa_nil)))))))
    (pss_one (ps_ret (pe_un un_neg pe_int)))
    pss_nil)
  (pss_cons (ps_set (i := 6) sc_law_grow_box.nd rfl (Or.inl rfl) (pe_call (ok_law_row A) (hr.mono (by omega)) rfl A.law_row.m A.law_row.F.kp A.law_row.b .nil pass0 (pa_cons (pv 2) (pa_cons (pe_tup (pa_cons pe_str (pa_cons (pv 5) pa_nil))) pa_nil))))
  (pss_cons (ps_set (i := 7) sc_law_grow_box.nd rfl (Or.inl rfl) (pe_lst pa_nil))
  (pss_cons (ps_set (i := 8) sc_law_grow_box.nd rfl (Or.inl rfl) (pe_callTy call_list_of (by rfl) A.T.list (by decide +kernel) (pa_cons (pe_ix ix_tup (pe_ix (ix_listK K rfl) (pv 3) (pv 4) (fun _ _ => rfl)) pe_int (fun _ _ => rfl)) pa_nil)))
  (pss_cons (ps_for PassesOwn.never rfl (pi_list (pv 8)) (pg_name (i := 9) sc_law_grow_box.nd rfl (Or.inl rfl))
    (pss_one (ps_if (PW.pt (pw_and (pt_cmpR op_eq (pv 1) pe_str (nomark _)) (pw_and1 (pt_cmpR op_ne (pe_ix ix_tup (pe_ix (ix_listK K rfl) (pe_ix (ix_listK K rfl) (pv 2) pe_int (fun _ _ => rfl)) (pv 9) (fun _ _ => rfl)) pe_int (fun _ _ => rfl)) pe_str (nomark _)))))
    (pss_cons (ps_set (i := 10) sc_law_grow_box.nd rfl (Or.inl rfl) (pe_call (ok_law_row A) (hr.mono (by omega)) rfl A.law_row.m A.law_row.F.kp A.law_row.b .nil pass0 (pa_cons (pv 2) (pa_cons (pe_tup (pa_cons pe_str (pa_cons (pv 9) pa_nil))) pa_nil))))
  (pss_cons (ps_set (i := 4) sc_law_grow_box.nd rfl (Or.inl rfl) (pe_call (ok_law_line A) (hr.mono (by omega)) rfl A.law_line.m A.law_line.F.kp A.law_line.b .nil pass0 (pa_cons (pv 3) (pa_cons (pe_op op_cat (pe_call (ok_law_less A) (hr.mono (by omega)) rfl A.law_less.m A.law_less.F.kp A.law_less.b .nil pass0 (pa_cons (pe_ix ix_tup (pe_ix (ix_listK K rfl) (pv 3) (pv 4) (fun _ _ => rfl)) pe_int (fun _ _ => rfl)) (pa_cons (pv 9) pa_nil))) (pe_lst (pa_cons (pv 10) pa_nil))) (pa_cons (pe_ix ix_tup (pe_ix (ix_listK K rfl) (pv 3) (pv 4) (fun _ _ => rfl)) pe_int (fun _ _ => rfl)) (pa_cons pe_str (pa_cons (pe_tup (pa_cons (pv 4) pa_nil)) (pa_cons (pv 10) pa_nil))))))))
  (pss_one (ps_expr (pe_bm PySem.F.plainAttrs_list PySem.F.slot_list_append PySem.F.type_list_append mt_append (pv 7) (pa_cons (pv 10) pa_nil))))))
    (pss_one (ps_if (PW.pt (pw_or (pt_cmpR op_eq (pv 1) pe_str (nomark _)) (pw_or1 (PW.pt (pw_and (pt_cmpR op_eq (pv 1) pe_str (nomark _)) (pw_and (pt_cmpR op_eq (pe_ix ix_tup (pe_ix (ix_listK K rfl) (pe_ix (ix_listK K rfl) (pv 2) pe_int (fun _ _ => rfl)) (pv 9) (fun _ _ => rfl)) pe_int (fun _ _ => rfl)) pe_str (nomark _)) (pw_and1 (PW.pt (pw_or (pt_cmpR op_eq (pv 9) (pv 6) (nomark _)) (pw_or1 (pt_cmpR op_eq (pe_call (ok_law_next A) (hr.mono (by omega)) rfl A.law_next.m A.law_next.F.kp A.law_next.b .nil pass0 (pa_cons (pv 0) (pa_cons pe_int pa_nil))) pe_int (nomark _))))))))))))
    (pss_one (ps_expr (pe_bm PySem.F.plainAttrs_list PySem.F.slot_list_extend PySem.F.type_list_extend mt_extend (pv 7) (pa_cons (pe_ifExp (PW.pt (pw_and (pt_cmpR op_eq (pv 1) pe_str (nomark _)) (pw_and1 (pt_cmpR op_eq (pv 9) (pv 6) (nomark _))))) (pe_lst pa_nil) (pe_lst (pa_cons (pv 9) pa_nil))) pa_nil))))
    (pss_one (ps_expr (pe_bm PySem.F.plainAttrs_list PySem.F.slot_list_append PySem.F.type_list_append mt_append (pv 7) (pa_cons (pe_call (ok_law_row A) (hr.mono (by omega)) rfl A.law_row.m A.law_row.F.kp A.law_row.b .nil pass0 (pa_cons (pv 2) (pa_cons (pe_tup (pa_cons pe_str (pa_cons (pv 9) pa_nil))) pa_nil))) pa_nil)))))))))
  (pss_one (ps_ret (pe_call (ok_law_line A) (hr.mono (by omega)) rfl A.law_line.m A.law_line.F.kp A.law_line.b .nil pass0 (pa_cons (pv 3) (pa_cons (pv 7) (pa_cons (pe_lst (pa_cons (pv 6) pa_nil)) (pa_cons pe_str (pa_cons (pe_tup (pa_cons (pv 4) pa_nil)) (pa_cons (pv 6) pa_nil)))))))))))))), ?_⟩
    obtain ⟨le, ri, L⟩ := G.ok us[at_] (List.getElem_mem _)
    obtain ⟨t, l, r, a1, b, c, et, ht, tM, hl, lM, hr', rM⟩ := L.ex
    have hus : us[at_]? = some (.ref t) := by rw [List.getElem?_eq_getElem hat, et]
    have hln := G.hl
    have sqt : SqT K H t [.ref l, .ref r, a1, b, c] := SqT.of ht
    refine ⟨fun σ' H' => σ' = [some (.ref st), some (.str x), some (.ref bk), some (.ref ln), some (.int (at_ : Nat)), some (.int (j : Nat)), none, none, none, none, none] ∧ Adv [] H H' ∧ logicB x = true, ?_, ?_⟩
    · walk_at "rd"
      refine iteB (fun e => ?_) (fun e => ?_)
      · walk_at "rd"
        exact q1 H G (Adv.refl _ _)
      · walk_at "rd"
        refine ⟨x, rfl, fun H1 a1 => ?_⟩
        walk_at "rd"
        cases ex : logicB x with
        | false =>
          refine iteY rfl ?_
          walk_at "rd"
          exact q1 H1 (G.same a1) a1.nil
        | true =>
          refine iteN rfl ?_
          walk_at "rd"
          exact ⟨rfl, a1, rfl⟩
    rintro σ' H1 ⟨rfl, a01, hbx⟩
    have G1 := G.same a01
    have L1 := L.adv a01.nil
    clear hln sqt
    walk_at "rd"
    refine ⟨by show 2 ≤ sizeLine; decide, fun p np => ?_⟩
    walk_at "rd"
    refine row_dn (c := 1) (.box j) G1.D np (by simp only [Nd.ok, hbx, Bool.true_and, decide_eq_true_eq]; exact hj) (by omega) (List.prefix_refl _) (by omega) (a_s (Adv.refl _ _)) fun main ns2 H2 d2 => ?_
    have G2 := G1.draw d2
    have e2 := d2.le
    have g2 := d2.ge
    have r2 := d2.lt
    have a02 := a01.nil.trans d2.a
    have L2 := (L1.adv (d2.a.more (fun b hb => by
      rcases List.mem_cons.mp hb with rfl | hb
      · exact G1.D.ms
      · rcases List.mem_cons.mp hb with rfl | hb
        · exact G1.D.B.m0
        · rw [List.mem_singleton.mp hb]; exact G1.D.B.m1))).mono g2 (Nat.le_refl _)
    rw [et] at L2
    walk_at "rd"
    refine ⟨Nat.zero_le _, fun Nw nN => ?_⟩
    have cN : Adv [] H2 (upd H2 Nw (.lst [])) := Adv.new nN
    have hN : (upd H2 Nw (.lst [])) Nw = some (.lst (nVl [])) := upd_same
    have NM : Nw ∉ M := not_mem_new G2.al nN
    have G3 := G2.fresh (o := .lst []) nN
    have L3 := L2.fresh (o := .lst []) nN
    have nNs : Nw ≠ st := fun z => NM (by rw [z]; exact G2.D.ms)
    have nN0 : Nw ≠ b0 := fun z => NM (by rw [z]; exact G2.D.B.m0)
    have nN1 : Nw ≠ b1 := fun z => NM (by rw [z]; exact G2.D.B.m1)
    have nNl : Nw ≠ ln := fun z => NM (by rw [z]; exact G2.ml)
    have a03 := (Gw.a4 (ln := ln) a02).trans cN.nil
    have gms := G2.D.ms
    have gm0 := G2.D.B.m0
    have gm1 := G2.D.B.m1
    have gml := G2.ml
    have nN00 : H Nw = none := a02.free (notin3 nNs nN0 nN1) nN
    generalize (upd H2 Nw (.lst [])) = H3 at cN hN G3 L3 a03
    have hus' : ∃ v0, us[at_]? = some v0 ∧ GL1 (Nw :: M) H3 ns2.length S v0 le ri := ⟨_, hus, L3⟩
    clear hus G G1 G2 L L1 L2 L3 a01 a02 d2 cN nN np et ht hl hr' tM lM rM
    clear a1 b c t l r
    obtain ⟨v0, hus, L3⟩ := hus'
    obtain ⟨t, l, r, a1, b, c, et', ht, tM, hl, lM, hr', rM⟩ := L3.ex
    subst et'
    have hln3 := G3.hl
    have sqt : SqT K H3 t [.ref l, .ref r, a1, b, c] := SqT.of ht
    have sql : SqT K H3 l (nVl le) := SqT.of hl
    walk_at "rd"
    intro Rw nR
    have cR : Adv [] H3 (upd H3 Rw (.lst (nVl le))) := Adv.new nR
    have hR : (upd H3 Rw (.lst (nVl le))) Rw = some (.lst (nVl le)) := upd_same
    have RM : Rw ∉ Nw :: M := not_mem_new G3.al nR
    have G4 := G3.same cR
    have L4 := L3.adv cR.nil
    have hN := cR.same _ _ hN
    have a04 := a03.trans cR.nil
    generalize (upd H3 Rw (.lst (nVl le))) = H4 at cR hR G4 L4 hN a04
    clear G3 L3 a03 cR nR hln3 sqt sql ht hl hr' tM lM rM
    walk_at "rd"
    have hS1 : max S 1 ≤ 1900 := by omega
    have G4D : Dw M H4 st bk b0 b1 (logicB x) ns2 := G4.D.less (fun b hb => List.mem_cons_of_mem _ hb) gms gm0 gm1
    have G4ml : ln ∈ M := gml
    have mx : S ≤ max S 1 := by omega
    unfold iList
    refine ⟨.ref Rw, rfl, Rw, rfl, ⟨_, SqL.of hR⟩, ?_⟩
    have NR : Nw ≠ Rw := fun z => RM (by rw [← z]; exact List.mem_cons_self)
    refine for_list (a := Rw) (xs := nVl le) (GbxI M H st bk b0 b1 ln Nw Rw x j main ns2 us S le)
      ⟨⟨at_, [], ns2, us, _, le, ri, _, _, rfl, hN, hR, G4.mono mx, hus, L4.mono (Nat.le_refl _) mx, fun _ y hy => hy, by simp, by simp, Nat.le_refl _, by omega, Nat.le_refl _, by omega, a04⟩⟩ ?_ ?_ ?_
    · rintro i σ' H' hi ⟨at1, nw, ns', us', v1, le', ri', y9, y10, rfl, hN, hR, _⟩
      exact SqL.of hR
    · rintro i v0 σ' H' hx0 ⟨at1, nw, ns', us', v1, le', ri', y9, y10, rfl, hN, hR, G5, hus', L5, hin, nwl, hnw, k1, k2, k3, k4, a05⟩
      obtain ⟨row, hrow, rfl⟩ := nVl_gt hx0
      have hrow' := List.mem_of_getElem? hrow
      have il : i < le.length := (List.getElem?_eq_some_iff.mp hrow).1
      have lel : le.length ≤ S := L4.ll
      have rowl : row < ns'.length := by have := L4.hl row hrow'; omega
      clear hx0
      have hlnA := G5.hl
      have hbk := G5.D.hbk
      obtain ⟨rs, na, tg, ks, hb0, hrs, hna⟩ := G5.node rowl
      obtain ⟨t, l, r, a1, b, c, ev1, ht, tM, hl, lM, hr', rM⟩ := L5.ex
      subst ev1
      have sqt : SqT K H' t [.ref l, .ref r, a1, b, c] := SqT.of ht
      have sqn := hna.sq A.W
      have notD : ∀ {u : Addr}, u ∉ Nw :: M → u ∉ [st, b0, b1] := fun {u} h => fun z => h (G5.m3 u z)
      have RN : Rw ∉ [st, b0, b1] := notD RM
      have NN : Nw ∉ [st, b0, b1] := notin3 nNs nN0 nN1
      have fin : ∀ (zs : List Nat) (H9 : Hp), Adv [st] H' H9 → StrAt (Nw :: M) H9 st → zs.length ≤ 1 → (∀ y ∈ zs, y < ns'.length) → GbxI M H st bk b0 b1 ln Nw Rw x j main ns2 us S le (i + 1) [some (.ref st), some (.str x), some (.ref bk), some (.ref ln), some (.int (at1 : Nat)), some (.int (j : Nat)), some (.int (main : Nat)), some (.ref Nw), some (.ref Rw), some (.int (row : Nat)), y10] (upd H9 Nw (.lst (nVl nw ++ nVl zs))) :=
        fun zs H9 a9 hs9 zl hz => GbxI.put (zs := zs) (a9 _ _ (notin1 nNs) hN) (a9 _ _ (notin1 (fun z => RM (by rw [z]; exact List.mem_cons_of_mem _ gms))) hR) (G5.next a9 hs9) hus' (L5.adv (a9.more (by simp [gms]))) (fun e y hy => hin e y ((drop_ne L4.nl hrow).2 y hy).1) nwl hnw zl hz k1 (by omega) k3 (by omega) (a05.trans (a9.more (by simp))) nN00 NR nNs nN0 nN1 nNl
      by_cases xs : x = "s4"
      · subst xs
        walk_at "rd"
        refine iteB (fun e => ?_) (fun e => ?_)
        · walk_at "rd"
          refine ⟨by show 2 ≤ sizeLine; decide, fun p np => ?_⟩
          walk_at "rd"
          refine row_dn (c := 1) (.box row) G5.D np (by simp only [Nd.ok, hbx, Bool.true_and, decide_eq_true_eq]; exact rowl) (by omega) (List.prefix_refl _) (by omega) (a_s (Adv.refl _ _)) fun other ns3 H6 d6 => ?_
          have G6 := G5.draw d6
          have e6 := d6.le
          have g6 := d6.ge
          have r6 := d6.lt
          have L6 := (L5.adv (d6.a.more G5.m3)).mono g6 (Nat.le_refl _)
          have a06 := a05.trans (Gw.a4 d6.a)
          have hN6 := d6.a _ _ NN hN
          have hR6 := d6.a _ _ RN hR
          clear G5 L5 a05 hN hR ht hl hr' sqt hlnA hbk hb0 sqn hna d6 np
          obtain ⟨t', l, r, a1, b, c, ev1, ht, tM, hl, lM, hr', rM⟩ := L6.ex
          cases ev1
          have hln6 := G6.hl
          have sqt : SqT K H6 t [.ref l, .ref r, a1, b, c] := SqT.of ht
          walk_at "rd"
          have le'l := L6.ll
          refine ⟨⟨l, le', (row : Nat), rfl, .inr (Tp.of hl (by simp)), by omega, fun D H7 nD hD a7 => ?_⟩⟩
          walk_at "rd"
          refine ⟨by show 1 ≤ sizeLine; decide, fun p np => ?_⟩
          have cp : Adv [] H7 (upd H7 p (.lst [.int (other : Nat)])) := Adv.new np
          have hp : (upd H7 p (.lst [.int (other : Nat)])) p = some (.lst [.int (other : Nat)]) := upd_same
          have hD8 := cp.same _ _ hD
          have c8 := a7.trans cp
          generalize (upd H7 p (.lst [.int (other : Nat)])) = H8 at cp hp hD8 c8
          clear np cp hD a7 nD
          walk_at "rd"
          have fl := List.length_filter_le (fun (k : Nat) => decide (((k : Nat) : Int) ≠ (row : Nat))) le'
          refine ⟨D, p, _, _, rfl, rfl, hD8, hp, by rw [sizeLine_eq, nVl_ln, List.length_singleton]; omega, fun p2 n2 => ?_⟩
          have c9 := c8.newT (o := .lst (nVl (le'.filter fun (k : Nat) => decide (((k : Nat) : Int) ≠ (row : Nat))) ++ [.int (other : Nat)])) n2
          have h2 : (upd H8 p2 (.lst (nVl (le'.filter fun (k : Nat) => decide (((k : Nat) : Int) ≠ (row : Nat))) ++ [.int (other : Nat)]))) p2 = some (.lst (nVl ((le'.filter fun (k : Nat) => decide (((k : Nat) : Int) ≠ (row : Nat))) ++ [other]))) := by rw [← nVl_app]; exact upd_same
          generalize (upd H8 p2 (.lst (nVl (le'.filter fun (k : Nat) => decide (((k : Nat) : Int) ≠ (row : Nat))) ++ [.int (other : Nat)]))) = H9 at c9 h2
          clear hD8 hp c8 n2
          have G9 := G6.same c9
          have L9 := L6.adv c9.nil
          have a09 := a06.trans c9.nil
          have hN9 := c9.same _ _ hN6
          have hR9 := c9.same _ _ hR6
          clear G6 L6 a06 hN6 hR6 c9 ht hl hr' sqt hln6
          obtain ⟨t', l, r, a1, b, c, ev1, ht, tM, hl, lM, hr', rM⟩ := L9.ex
          cases ev1
          have hln9 := G9.hl
          have sqt : SqT K H9 t [.ref l, .ref r, a1, b, c] := SqT.of ht
          walk_at "rd"
          refine ⟨by show 1 ≤ sizeLine; decide, fun p4 n4 => ?_⟩
          have c4 : Adv [] H9 (upd H9 p4 (.tup [.int (at1 : Nat)])) := Adv.new n4
          have h4 : (upd H9 p4 (.tup [.int (at1 : Nat)])) p4 = some (.tup [.int (at1 : Nat)]) := upd_same
          have p4M : p4 ∉ Nw :: M := not_mem_new G9.al n4
          have G10 := G9.same c4
          have h2 := c4.same _ _ h2
          have hr10 := c4.same _ _ hr'
          have hN10 := c4.same _ _ hN9
          have hR10 := c4.same _ _ hR9
          have a10 := a09.trans c4.nil
          generalize (upd H9 p4 (.tup [.int (at1 : Nat)])) = H10 at c4 h4 h2 hr10 hN10 hR10 G10 a10
          clear G9 a09 hN9 hR9 c4 ht hl hr' sqt hln9
          walk_at "rd"
          have rl := L9.lr
          have fl2 : row ∈ le' → (le'.filter fun (k : Nat) => decide (((k : Nat) : Int) ≠ (row : Nat))).length + 1 ≤ le'.length := filt_lt
          have rin : row ∈ le' := hin rfl row (drop_ne L4.nl hrow).1
          refine ⟨⟨Nw :: M, ln, p2, r, p4, "box left", (other : Nat), us', _, _, ri', rfl, G10.al, G10.hl, by omega, .inl h2, .inr (Tp.of hr10 (by simp)), by rw [List.length_append, List.length_singleton]; omega, by omega, Tp.of h4 p4M, fun t l r' H11 nt hln tln ht nl hl nr hr a11 => ?_⟩⟩
          have GF := G10.line (S' := max S 1) nt hln ht nl hl nr hr a11 (fun y hy => by
            rcases List.mem_append.mp hy with hy | hy
            · exact L9.hl y (List.mem_filter.mp hy).1
            · rw [List.mem_singleton.mp hy]; exact r6) (fun y hy => L9.hr y hy) (by rw [List.length_append, List.length_singleton]; have := fl2 rin; omega) (by omega) (Nat.le_refl _)
          walk_at "rd"
          refine rd_app (a11 _ _ (notin1 nNl) hN10) (by rw [sizeLine_eq, nVl_ln]; omega) ?_
          exact GbxI.put (zs := [other]) (a11 _ _ (notin1 nNl) hN10) (a11 _ _ (notin1 (fun z => RM (by rw [z]; exact List.mem_cons_of_mem _ gml))) hR10) (GF.1.mono (by omega)) (v2 := .ref t) (by simp) (GF.2.mono (Nat.le_refl _) (by omega)) (fun _ y hy => srtN_mem.mpr (List.mem_append.mpr (.inl (List.mem_filter.mpr ⟨hin rfl y ((drop_ne L4.nl hrow).2 y hy).1, decide_eq_true (fun z => ((drop_ne L4.nl hrow).2 y hy).2 (by omega))⟩)))) nwl (fun y hy => by have := hnw y hy; omega) (by simp) (by simpa using r6) (by omega) (by omega) (by simp; omega) (by simp; omega) (a10.trans (a11.more (by simp))) nN00 NR nNs nN0 nN1 nNl
        · walk_at "rd"
          refine ⟨by show 1 ≤ sizeLine; decide, fun p np => ?_⟩
          have cp : Adv [] H' (upd H' p (.lst [.int (row : Nat)])) := Adv.new np
          have hN7 := cp.same _ _ hN
          have hp : (upd H' p (.lst [.int (row : Nat)])) p = some (.lst [.int (row : Nat)]) := upd_same
          walk_at "rd"
          refine ⟨Nw, p, _, _, rfl, rfl, hN7, hp, by rw [sizeLine_eq, nVl_ln, List.length_singleton]; omega, ?_⟩
          exact fin [row] _ cp.nil (G5.D.str.same cp) (by simp) (by simpa using rowl)
      · have xv : decide (V.str x = V.str "s4") = false := decide_eq_false (fun z => xs (by injection z))
        have fin3 : ∀ (H9 : Hp), Adv [st] H' H9 → StrAt (Nw :: M) H9 st → ∀ (other : Nat) (ns3 : List Nd) (H6 : Hp), Dn 1 (Nw :: M) st bk b0 b1 (logicB x) ns' H9 other ns3 H6 → H6 Nw = some (.lst (nVl nw)) ∧ GbxI M H st bk b0 b1 ln Nw Rw x j main ns2 us S le (i + 1) [some (.ref st), some (.str x), some (.ref bk), some (.ref ln), some (.int (at1 : Nat)), some (.int (j : Nat)), some (.int (main : Nat)), some (.ref Nw), some (.ref Rw), some (.int (row : Nat)), y10] (upd H6 Nw (.lst (nVl nw ++ nVl [other]))) := fun H9 a9 hs9 other ns3 H6 d6 => by
          have G9 := G5.next a9 hs9
          have e6 := d6.le
          have g6 := d6.ge
          have r6 := d6.lt
          have L9 := L5.adv (a9.more (by simp [gms]))
          have hN6 := d6.a _ _ NN (a9 _ _ (notin1 nNs) hN)
          exact ⟨hN6, GbxI.put (zs := [other]) hN6 (d6.a _ _ RN (a9 _ _ (notin1 (fun z => RM (by rw [z]; exact List.mem_cons_of_mem _ gms))) hR)) (G9.draw d6) hus' ((L9.adv (d6.a.more G9.m3)).mono g6 (Nat.le_refl _)) (fun e => absurd e xs) nwl (fun y hy => by have := hnw y hy; omega) (by simp) (by simpa using r6) (by omega) (by omega) k3 (by omega) ((a05.trans (a9.more (by simp))).trans (Gw.a4 d6.a)) nN00 NR nNs nN0 nN1 nNl⟩
        have s5 := G5.D.str
        have a5 : Adv [st] H' H' := Adv.refl _ _
        walk_at "rd"
        refine iteB (fun e => ?_) (fun e => ?_)
        · walk_at "rd"
          refine iteB (fun e2 => ?_) (fun e2 => ?_)
          · walk_at "rd"
            refine iteB (fun e3 => ?_) (fun e3 => ?_)
            · walk_at "rd"
              refine ⟨Nat.zero_le _, fun p np => ?_⟩
              have cp := Adv.newT (o := .lst (nVl ([] : List Nat))) a5 np
              have sp := StrAt.same s5 (Adv.new (M := []) (o := .lst (nVl ([] : List Nat))) np)
              walk_at "rd"
              refine ⟨Nw, p, _, _, rfl, rfl, cp _ _ (notin1 nNs) hN, upd_same, by rw [sizeLine_eq, nVl_ln]; simp only [List.length_cons, List.length_nil]; omega, ?_⟩
              exact fin [] _ cp sp (by simp) (by simp [rowl])
            · walk_at "rd"
              refine ⟨st, 2, Nw :: M, rfl, s5, by decide, by decide, fun d H8 d0 d1 hs8 a8 => ?_⟩
              walk_at "rd"
              refine iteB (fun e4 => ?_) (fun e4 => ?_)
              · walk_at "rd"
                refine ⟨by show 1 ≤ sizeLine; decide, fun p np => ?_⟩
                have cp := Adv.newT (o := .lst (nVl [row])) a8 np
                have sp := StrAt.same hs8 (Adv.new (M := []) (o := .lst (nVl [row])) np)
                walk_at "rd"
                refine ⟨Nw, p, _, _, rfl, rfl, cp _ _ (notin1 nNs) hN, upd_same, by rw [sizeLine_eq, nVl_ln]; simp only [List.length_cons, List.length_nil]; omega, ?_⟩
                exact fin [row] _ cp sp (by simp) (by simp [rowl])
              · walk_at "rd"
                refine ⟨by show 2 ≤ sizeLine; decide, fun p np => ?_⟩
                walk_at "rd"
                refine row_dn (c := 1) (.box row) (G5.next a8 hs8).D np (by simp only [Nd.ok, hbx, Bool.true_and, decide_eq_true_eq]; exact rowl) (by omega) (List.prefix_refl _) (by omega) (a_s (Adv.refl _ _)) fun other ns3 H6 d6 => ?_
                obtain ⟨f1, f2⟩ := fin3 _ a8 hs8 _ _ _ d6
                walk_at "rd"
                exact rd_app f1 (by rw [sizeLine_eq, nVl_ln]; omega) f2
          · walk_at "rd"
            refine ⟨by show 2 ≤ sizeLine; decide, fun p np => ?_⟩
            walk_at "rd"
            refine row_dn (c := 1) (.box row) (G5.next a5 s5).D np (by simp only [Nd.ok, hbx, Bool.true_and, decide_eq_true_eq]; exact rowl) (by omega) (List.prefix_refl _) (by omega) (a_s (Adv.refl _ _)) fun other ns3 H6 d6 => ?_
            obtain ⟨f1, f2⟩ := fin3 _ a5 s5 _ _ _ d6
            walk_at "rd"
            exact rd_app f1 (by rw [sizeLine_eq, nVl_ln]; omega) f2
        · walk_at "rd"
          refine ⟨by show 2 ≤ sizeLine; decide, fun p np => ?_⟩
          walk_at "rd"
          refine row_dn (c := 1) (.box row) (G5.next a5 s5).D np (by simp only [Nd.ok, hbx, Bool.true_and, decide_eq_true_eq]; exact rowl) (by omega) (List.prefix_refl _) (by omega) (a_s (Adv.refl _ _)) fun other ns3 H6 d6 => ?_
          obtain ⟨f1, f2⟩ := fin3 _ a5 s5 _ _ _ d6
          walk_at "rd"
          exact rd_app f1 (by rw [sizeLine_eq, nVl_ln]; omega) f2
    · rintro σ' H' ⟨at1, nw, ns', us', v1, le', ri', y9, y10, rfl, hN, hR, G5, hus', L5, hin, nwl, hnw, k1, k2, k3, k4, a05⟩
      rw [nVl_ln] at nwl k2 k4
      have lel : le.length ≤ S := L4.ll
      walk_at "rd"
      refine ⟨by show 1 ≤ sizeLine; decide, fun p3 n3 => ?_⟩
      have c3 : Adv [] H' (upd H' p3 (.lst [.int (main : Nat)])) := Adv.new n3
      have h3 : (upd H' p3 (.lst [.int (main : Nat)])) p3 = some (.lst (nVl [main])) := upd_same
      have h2 := c3.same _ _ hN
      have G6 := G5.same c3
      generalize (upd H' p3 (.lst [.int (main : Nat)])) = H6 at c3 h3 h2 G6
      walk_at "rd"
      refine ⟨by show 1 ≤ sizeLine; decide, fun p4 n4 => ?_⟩
      have c4 := c3.newT (o := .tup [.int (at1 : Nat)]) n4
      have G7 := G6.same (Adv.new (o := .tup [.int (at1 : Nat)]) n4)
      have h2 := (Adv.new (M := []) (o := .tup [.int (at1 : Nat)]) n4).same _ _ h2
      have h3 := (Adv.new (M := []) (o := .tup [.int (at1 : Nat)]) n4).same _ _ h3
      have h4 : (upd H6 p4 (.tup [.int (at1 : Nat)])) p4 = some (.tup [.int (at1 : Nat)]) := upd_same
      have p4M : p4 ∉ Nw :: M := not_mem_new G6.al n4
      generalize (upd H6 p4 (.tup [.int (at1 : Nat)])) = H7 at c4 G7 h2 h3 h4
      walk_at "rd"
      refine ⟨⟨Nw :: M, ln, Nw, p3, p4, "box", (main : Nat), us', _, nw, [main], rfl, G7.al, G7.hl, by omega, .inl h2, .inl h3, by omega, by simp, Tp.of h4 p4M, fun t l r' H10 nt hln tln ht nl hl nr hr a10 => ?_⟩⟩
      have GF := G7.line (S' := max S 1) nt hln ht nl hl nr hr a10 hnw (by simp; omega) (by omega) (by simp; omega) (Nat.le_refl _)
      refine q _ ns' _ H10 (by omega) (by omega) (by simp; omega) (by simp; omega) ((GF.1.mono (by omega)).less (fun b hb => List.mem_cons_of_mem _ hb) G4D.ms G4D.B.m0 G4D.B.m1 G4ml) ((a05.trans c4.nil).trans (a10.more (by simp)))
end

set_option Elab.async false
set_option linter.all false
set_option maxRecDepth 100000
set_option maxHeartbeats 4000000
open PySem PySem.Spec PyProof.Rows L2 LL
open C8 (pss_cut)
section
variable [KW]
variable {P : Program} {w : World} {K : PySem.W.Frag} {mg : Str → Option Value} {base : Heap}
/-- a side of a line -/
structure Sd (M : List Addr) (H : Hp) (n S : Nat) (l : Addr) (le : List Nat) : Prop where
  h : H l = some (.tup (nVl le))
  m : l ∉ M
  b : ∀ x ∈ le, x < n
  z : le.length ≤ S
theorem Sd.adv {M : List Addr} {H H' : Hp} {n S : Nat} {l : Addr} {le : List Nat} (x : Sd M H n S l le) (a : Adv M H H') : Sd M H' n S l le := ⟨a _ _ x.m x.h, x.m, x.b, x.z⟩
theorem Sd.mono {M : List Addr} {H : Hp} {n n' S S' : Nat} {l : Addr} {le : List Nat} (x : Sd M H n S l le) (h : n ≤ n') (hs : S ≤ S') : Sd M H n' S' l le := ⟨x.h, x.m, fun y hy => Nat.lt_of_lt_of_le (x.b y hy) h, Nat.le_trans x.z hs⟩
theorem GL1.sides {M : List Addr} {H : Hp} {n S : Nat} {v : V} {le ri : List Nat} (x : GL1 M H n S v le ri) : ∃ (t l r : Addr) (a b c : V), v = .ref t ∧ H t = some (.tup [.ref l, .ref r, a, b, c]) ∧ t ∉ M ∧ Sd M H n S l le ∧ Sd M H n S r ri := by
  obtain ⟨t, l, r, a1, b, c, e, h1, m1, h2, m2, h3, m3⟩ := x.ex
  exact ⟨t, l, r, a1, b, c, e, h1, m1, ⟨h2, m2, x.hl, x.ll⟩, ⟨h3, m3, x.hr, x.lr⟩⟩
theorem Sd.sq {M : List Addr} {H : Hp} {n S : Nat} {l : Addr} {le : List Nat} (x : Sd M H n S l le) : SqT K H l (nVl le) := SqT.of x.h
theorem Sd.rws {M : List Addr} {H : Hp} {n S : Nat} {l : Addr} {le : List Nat} (x : Sd M H n S l le) : Rws [] H l le := .inr (Tp.of x.h (by simp))
/-! ### pieces of walks -/
def lesF (l : List Nat) (r : Nat) : List Nat := l.filter fun (k : Nat) => decide (((k : Nat) : Int) ≠ (r : Nat))
theorem lesF_le (l : List Nat) (r : Nat) : (lesF l r).length ≤ l.length := List.length_filter_le _ _
theorem lesF_mem {l : List Nat} {r y : Nat} (h : y ∈ lesF l r) : y ∈ l := (List.mem_filter.mp h).1
theorem les_at {H : Hp} {l : Addr} {le : List Nat} {r : Nat} {Q : VK} (h : Rws [] H l le) (hz : le.length ≤ 9000) (q : ∀ D H', H D = none → H' D = some (.lst (nVl (lesF le r))) → Adv [] H H' → Q (.ref D) H') : LesP [.ref l, .int (r : Nat)] H Q := ⟨⟨l, le, r, rfl, h, by omega, q⟩⟩
/-- a list and a list -/
theorem cat_at {H : Hp} {d e : Addr} {xs ys : List Nat} {Q : VK} (hd : H d = some (.lst (nVl xs))) (he : H e = some (.lst (nVl ys))) (hz : xs.length + ys.length ≤ 9000) (q : ∀ p H', H p = none → H' p = some (.lst (nVl (xs ++ ys))) → Adv [] H H' → Q (.ref p) H') : rCat (.ref d) (.ref e) H Q :=
  ⟨d, e, _, _, rfl, rfl, hd, he, by rw [sizeLine_eq, nVl_ln, nVl_ln]; omega, fun p hp => q p _ hp (by rw [← nVl_app]; exact upd_same) (Adv.new hp)⟩
/-- a line is put -/
theorem Gw.linE {M : List Addr} {H : Hp} {s bk b0 b1 ln lf rt pr : Addr} {bx : Bool} {ns : List Nd} {us ps : List V} {S S' : Nat} {rule : Str} {main : Int} {le2 ri2 : List Nat} {Q : VK} (G : Gw M H s bk b0 b1 ln bx ns us S) (hu : us.length ≤ 900000) (hlf : Rws [] H lf le2) (hrt : Rws [] H rt ri2) (hpr : Tp M H pr ps)
    (kl : ∀ y ∈ le2, y < ns.length) (kr : ∀ y ∈ ri2, y < ns.length) (zl : le2.length ≤ S') (zr : ri2.length ≤ S') (hS : S ≤ S') (hS' : S' ≤ 4000) (q : ∀ v H', Gw M H' s bk b0 b1 ln bx ns (us ++ [v]) S' → Adv [ln] H H' → Q (.int (us.length : Nat)) H') : LinP [.ref ln, .ref lf, .ref rt, .str rule, .ref pr, .int main] H Q :=
  ⟨⟨M, ln, lf, rt, pr, rule, main, us, ps, le2, ri2, rfl, G.al, G.hl, by omega, hlf, hrt, by omega, by omega, hpr, fun t l r H' nt hln tln ht nl hl nr hr a => q (.ref t) H' ((G.line nt hln ht nl hl nr hr a kl kr zl zr hS).1.mono (by omega)) a⟩⟩
/-! ### _law_grow_one -/
structure GonP (vs : List V) (H : Hp) (Q : VK) : Prop where
  ex : ∃ (M : List Addr) (s bk b0 b1 ln : Addr) (x rule : Str) (ns : List Nd) (us : List V) (S at_ : Nat) (letters : Int), vs = [.ref s, .str x, .ref bk, .ref ln, .int letters, .str rule, .int (at_ : Nat)] ∧ Gw M H s bk b0 b1 ln (logicB x) ns us S ∧ at_ < us.length ∧ 0 < letters ∧ letters ≤ 8 ∧ (rule = "box left" → logicB x = true) ∧ ns.length ≤ 90000 ∧ us.length ≤ 500000 ∧ S ≤ 1900 ∧
    (∀ ns' H', ns.length ≤ ns'.length → ns'.length ≤ ns.length + 3 → Gw M H' s bk b0 b1 ln (logicB x) ns' us S → Adv [s, b0, b1, ln] H H' → Q (.int (-1)) H') ∧
    ∀ (r : Nat) ns' us' H', ns.length ≤ ns'.length → ns'.length ≤ ns.length + S + 4 → us.length ≤ us'.length → us'.length ≤ us.length + S + 1 → Gw M H' s bk b0 b1 ln (logicB x) ns' us' (S + 1) → Adv [s, b0, b1, ln] H H' → Q (.int (r : Nat)) H'
def spGon : Sp := fun vs H Q _ => GonP vs H Q
theorem ok_law_grow_one (A : All K mg w) : FnOk P w K mg base CX0 7 A.law_grow_one.f A.law_grow_one.fd ["stream", "logic", "book", "lines", "letters", "rule", "at"] spGon := by
  refine A.law_grow_one.F.ok sc_law_grow_one (fun vs H Q E h => ?_) (fun cdv Ar outer s H vs Q E hr h => ?_)
  · obtain ⟨M, s, bk, b0, b1, ln, x, rule, ns, us, S, at_, letters, rfl, _⟩ := h.ex
    rfl
  · obtain ⟨M, st, bk, b0, b1, ln, x, rule, ns, us, S, at_, letters, rfl, G, hat, l0, l1, hbx, hz, hu, hS, q1, q⟩ := h.ex
    refine ⟨_, (pss_cons (ps_par (i := 7) (j := 8) (by rfl) sc_law_grow_one.nd rfl rfl (by decide) rfl rfl (pa_cons (pe_ix ix_tup (pe_ix (ix_listK K rfl) (pv 3) (pv 6) (fun _ _ => rfl)) pe_int (fun _ _ => rfl)) (pa_cons (pe_ix ix_tup (pe_ix (ix_listK K rfl) (pv 3) (pv 6) (fun _ _ => rfl)) pe_int (fun _ _ => rfl)) pa_nil)) (by rfl))
  (pss_cons (ps_set (i := 9) sc_law_grow_one.nd rfl (Or.inl rfl) (pe_call (ok_law_part A) (hr.mono (by omega)) rfl A.law_part.m A.law_part.F.kp A.law_part.b .nil pass0 (pa_cons (pv 0) (pa_cons (pv 2) (pa_cons (pv 7) (pa_cons (pv 4) pa_nil))))))
  (pss_cons (ps_set (i := 10) sc_law_grow_one.nd rfl (Or.inl rfl) (pe_call (ok_law_part A) (hr.mono (by omega)) rfl A.law_part.m A.law_part.F.kp A.law_part.b .nil pass0 (pa_cons (pv 0) (pa_cons (pv 2) (pa_cons (pv 8) (pa_cons (pv 4) pa_nil))))))
  (pss_cons (ps_if (pt_cmpR op_eq (pv 5) pe_str (nomark _))
    (pss_cons (ps_set (i := 11) sc_law_grow_one.nd rfl (Or.inl rfl) (pe_call (ok_law_part A) (hr.mono (by omega)) rfl A.law_part.m A.law_part.F.kp A.law_part.b .nil pass0 (pa_cons (pv 0) (pa_cons (pv 2) (pa_cons (pv 7) (pa_cons (pv 4) pa_nil))))))
  (pss_cons (ps_set (i := 12) sc_law_grow_one.nd rfl (Or.inl rfl) (pe_call (ok_law_row A) (hr.mono (by omega)) rfl A.law_row.m A.law_row.F.kp A.law_row.b .nil pass0 (pa_cons (pv 2) (pa_cons (pe_cut (pe_ifExp (pt_cmpR op_eq (pe_call (ok_law_next A) (hr.mono (by omega)) rfl A.law_next.m A.law_next.F.kp A.law_next.b .nil pass0 (pa_cons (pv 0) (pa_cons pe_int pa_nil))) pe_int (nomark _)) (pe_tup (pa_cons pe_str (pa_cons (pv 9) (pa_cons (pv 11) pa_nil)))) (pe_tup (pa_cons pe_str (pa_cons (pv 11) (pa_cons (pv 9) pa_nil)))))) pa_nil))))
  (pss_one (ps_ret (pe_call (ok_law_line A) (hr.mono (by omega)) rfl A.law_line.m A.law_line.F.kp A.law_line.b .nil pass0 (pa_cons (pv 3) (pa_cons (pe_op op_cat (pe_call (ok_law_less A) (hr.mono (by omega)) rfl A.law_less.m A.law_less.F.kp A.law_less.b .nil pass0 (pa_cons (pe_call (ok_law_less A) (hr.mono (by omega)) rfl A.law_less.m A.law_less.F.kp A.law_less.b .nil pass0 (pa_cons (pv 7) (pa_cons (pv 9) pa_nil))) (pa_cons (pv 11) pa_nil))) (pe_lst (pa_cons (pv 12) pa_nil))) (pa_cons (pv 8) (pa_cons (pv 5) (pa_cons (pe_tup (pa_cons (pv 6) pa_nil)) (pa_cons (pv 12) pa_nil)))))))))))
    pss_nil)
  (pss_cons (ps_if (pt_cmpR op_eq (pv 5) pe_str (nomark _))
    (pss_cons (ps_set (i := 12) sc_law_grow_one.nd rfl (Or.inl rfl) (pe_call (ok_law_row A) (hr.mono (by omega)) rfl A.law_row.m A.law_row.F.kp A.law_row.b .nil pass0 (pa_cons (pv 2) (pa_cons (pe_tup (pa_cons pe_str (pa_cons (pv 9) pa_nil))) pa_nil))))
  (pss_one (ps_ret (pe_ifExp (pt_cmpR op_eq (pv 1) pe_str (nomark _)) (pe_call (ok_law_line A) (hr.mono (by omega)) rfl A.law_line.m A.law_line.F.kp A.law_line.b .nil pass0 (pa_cons (pv 3) (pa_cons (pe_op op_cat (pe_call (ok_law_less A) (hr.mono (by omega)) rfl A.law_less.m A.law_less.F.kp A.law_less.b .nil pass0 (pa_cons (pv 7) (pa_cons (pv 9) pa_nil))) (pe_lst (pa_cons (pv 12) pa_nil))) (pa_cons (pv 8) (pa_cons (pv 5) (pa_cons (pe_tup (pa_cons (pv 6) pa_nil)) (pa_cons (pv 12) pa_nil))))))) (pe_un un_neg pe_int)))))
    pss_nil)
  (pss_cons (ps_if (pt_cmpR op_eq (pv 5) pe_str (nomark _))
    (pss_cut (ps_set (i := 11) sc_law_grow_one.nd rfl (Or.inl rfl) (pe_ifExp (PW.pt (pw_and (pt_cmpR op_gt (pe_callB call_len_seq (by rfl) A.T.len PySem.boot_len (pa_cons (pv 8) pa_nil)) pe_int (nomark _)) (pw_and1 (pt_cmpR op_eq (pe_call (ok_law_next A) (hr.mono (by omega)) rfl A.law_next.m A.law_next.F.kp A.law_next.b .nil pass0 (pa_cons (pv 0) (pa_cons pe_int pa_nil))) pe_int (nomark _))))) (pe_call (ok_law_pick A) (hr.mono (by omega)) rfl A.law_pick.m A.law_pick.F.kp A.law_pick.b .nil pass0 (pa_cons (pv 0) (pa_cons (pv 8) pa_nil))) (pe_call (ok_law_leaf A) (hr.mono (by omega)) rfl A.law_leaf.m A.law_leaf.F.kp A.law_leaf.b .nil pass0 (pa_cons (pv 0) (pa_cons (pv 2) (pa_cons (pv 4) pa_nil))))))
  (pss_cons (ps_set (i := 12) sc_law_grow_one.nd rfl (Or.inl rfl) (pe_call (ok_law_row A) (hr.mono (by omega)) rfl A.law_row.m A.law_row.F.kp A.law_row.b .nil pass0 (pa_cons (pv 2) (pa_cons (pe_cut (pe_ifExp (pt_cmpR op_eq (pe_call (ok_law_next A) (hr.mono (by omega)) rfl A.law_next.m A.law_next.F.kp A.law_next.b .nil pass0 (pa_cons (pv 0) (pa_cons pe_int pa_nil))) pe_int (nomark _)) (pe_tup (pa_cons pe_str (pa_cons (pv 10) (pa_cons (pv 11) pa_nil)))) (pe_tup (pa_cons pe_str (pa_cons (pv 11) (pa_cons (pv 10) pa_nil)))))) pa_nil))))
  (pss_one (ps_ret (pe_call (ok_law_line A) (hr.mono (by omega)) rfl A.law_line.m A.law_line.F.kp A.law_line.b .nil pass0 (pa_cons (pv 3) (pa_cons (pv 7) (pa_cons (pe_op op_cat (pe_call (ok_law_less A) (hr.mono (by omega)) rfl A.law_less.m A.law_less.F.kp A.law_less.b .nil pass0 (pa_cons (pe_call (ok_law_less A) (hr.mono (by omega)) rfl A.law_less.m A.law_less.F.kp A.law_less.b .nil pass0 (pa_cons (pv 8) (pa_cons (pv 10) pa_nil))) (pa_cons (pv 11) pa_nil))) (pe_lst (pa_cons (pv 12) pa_nil))) (pa_cons (pv 5) (pa_cons (pe_tup (pa_cons (pv 6) pa_nil)) (pa_cons (pv 12) pa_nil)))))))))))
    pss_nil)
  (pss_cons (ps_if (pt_cmpR op_eq (pv 5) pe_str (nomark _))
    (pss_cut (ps_if (PW.pt (pw_and (pt_cmpR op_eq (pv 1) pe_str (nomark _)) (pw_and1 (pt_cmpR op_gt (pe_callB call_len_seq (by rfl) A.T.len PySem.boot_len (pa_cons (pv 8) pa_nil)) pe_int (nomark _)))))
    (pss_one (ps_ret (pe_un un_neg pe_int)))
    pss_nil)
  (pss_cons (ps_set (i := 12) sc_law_grow_one.nd rfl (Or.inl rfl) (pe_call (ok_law_row A) (hr.mono (by omega)) rfl A.law_row.m A.law_row.F.kp A.law_row.b .nil pass0 (pa_cons (pv 2) (pa_cons (pe_tup (pa_cons pe_str (pa_cons (pv 9) (pa_cons (pv 10) pa_nil)))) pa_nil))))
  (pss_one (ps_ret (pe_call (ok_law_line A) (hr.mono (by omega)) rfl A.law_line.m A.law_line.F.kp A.law_line.b .nil pass0 (pa_cons (pv 3) (pa_cons (pe_call (ok_law_less A) (hr.mono (by omega)) rfl A.law_less.m A.law_less.F.kp A.law_less.b .nil pass0 (pa_cons (pv 7) (pa_cons (pv 9) pa_nil))) (pa_cons (pe_op op_cat (pe_call (ok_law_less A) (hr.mono (by omega)) rfl A.law_less.m A.law_less.F.kp A.law_less.b .nil pass0 (pa_cons (pv 8) (pa_cons (pv 10) pa_nil))) (pe_lst (pa_cons (pv 12) pa_nil))) (pa_cons (pv 5) (pa_cons (pe_tup (pa_cons (pv 6) pa_nil)) (pa_cons (pv 12) pa_nil)))))))))))
    pss_nil)
  (pss_one (ps_ret (pe_call (ok_law_grow_box A) (hr.mono (by omega)) rfl A.law_grow_box.m A.law_grow_box.F.kp A.law_grow_box.b .nil pass0 (pa_cons (pv 0) (pa_cons (pv 1) (pa_cons (pv 2) (pa_cons (pv 3) (pa_cons (pv 6) (pa_cons (pv 10) pa_nil)))))))))))))))), ?_⟩
    obtain ⟨le, ri, L⟩ := G.ok us[at_] (List.getElem_mem _)
    obtain ⟨t, l, r, a1, b, c, et, ht, tM, SL, SR⟩ := L.sides
    have hus : us[at_]? = some (.ref t) := by rw [List.getElem?_eq_getElem hat, et]
    have hln := G.hl
    have sqt : SqT K H t [.ref l, .ref r, a1, b, c] := SqT.of ht
    walk_at "rd"
    have A0 : Adv [st, b0, b1, ln] H H := Adv.refl _ _
    have zl := SL.z
    have zr := SR.z
    clear sqt ht hus et tM hln L
    refine ⟨⟨M, st, bk, b0, b1, _, _, _, le, letters, rfl, G.D, SL.h, SL.b, by have := SL.z; omega, l0, l1, by omega, fun j ns1 H1 d => ?_⟩⟩
    have e0 := d.le
    have g0 := d.ge
    have r0 := d.lt
    replace SL := (SL.adv (d.a.more G.m3)).mono g0 (Nat.le_refl _)
    replace SR := (SR.adv (d.a.more G.m3)).mono g0 (Nat.le_refl _)
    replace A0 := A0.trans (Gw.a4 d.a)
    replace G := G.draw d
    clear d
    walk_at "rd"
    refine ⟨⟨M, st, bk, b0, b1, _, _, _, ri, letters, rfl, G.D, SR.h, SR.b, by have := SR.z; omega, l0, l1, by omega, fun k ns2 H2 d => ?_⟩⟩
    have e1 := d.le
    have g1 := d.ge
    have r1 := d.lt
    replace SL := (SL.adv (d.a.more G.m3)).mono g1 (Nat.le_refl _)
    replace SR := (SR.adv (d.a.more G.m3)).mono g1 (Nat.le_refl _)
    replace A0 := A0.trans (Gw.a4 d.a)
    replace G := G.draw d
    clear d
    walk_at "rd"
    refine iteB (fun e => ?_) (fun e => ?_)
    · walk_at "rd"
      refine ⟨⟨M, st, bk, b0, b1, _, _, _, le, letters, rfl, G.D, SL.h, SL.b, by have := SL.z; omega, l0, l1, by omega, fun o ns3 H3 d => ?_⟩⟩
      have e2 := d.le
      have g2 := d.ge
      have r2 := d.lt
      replace SL := (SL.adv (d.a.more G.m3)).mono g2 (Nat.le_refl _)
      replace SR := (SR.adv (d.a.more G.m3)).mono g2 (Nat.le_refl _)
      replace A0 := A0.trans (Gw.a4 d.a)
      replace G := G.draw d
      clear d
      walk_at "rd"
      refine ⟨fun v H' => ∃ (p : Addr) (nd : Nd) (H5 : Hp), v = .ref p ∧ H' = upd H5 p (.tup (nd.keys.map kV)) ∧ H5 p = none ∧ nd.ok (logicB x) ns3.length = true ∧ Adv [st] H3 H5 ∧ StrAt M H5 st, ?_, ?_⟩
      · walk_at "rd"
        refine ⟨st, 2, M, rfl, G.D.str, by decide, by decide, fun u H4 u0 u1 hs a => ?_⟩
        walk_at "rd"
        refine iteB (fun e => ?_) (fun e => ?_)
        · walk_at "rd"
          refine ⟨by show 3 ≤ sizeLine; decide, fun px nx => ?_⟩
          exact ⟨px, .bin .and j o, H4, rfl, rfl, nx, by simp only [Nd.ok, Bool.and_eq_true, decide_eq_true_eq]; omega, a, hs⟩
        · walk_at "rd"
          refine ⟨by show 3 ≤ sizeLine; decide, fun px nx => ?_⟩
          exact ⟨px, .bin .and o j, H4, rfl, rfl, nx, by simp only [Nd.ok, Bool.and_eq_true, decide_eq_true_eq]; omega, a, hs⟩
      · rintro v Hx ⟨px, nd, H5, rfl, rfl, nx, ok, a, hs⟩
        replace SL := SL.adv (a.more (by simp [G.D.ms]))
        replace SR := SR.adv (a.more (by simp [G.D.ms]))
        replace A0 := A0.trans (a.more (by simp))
        replace G := G.next a hs
        clear a hs
        walk_at "rd"
        refine row_dn (c := 1) nd G.D nx ok (by omega) (List.prefix_refl _) (by omega) (a_s (Adv.refl _ _)) fun main ns4 H4 d => ?_
        have e3 := d.le
        have g3 := d.ge
        have r3 := d.lt
        replace SL := (SL.adv (d.a.more G.m3)).mono g3 (Nat.le_refl _)
        replace SR := (SR.adv (d.a.more G.m3)).mono g3 (Nat.le_refl _)
        replace A0 := A0.trans (Gw.a4 d.a)
        replace G := G.draw d
        clear d
        walk_at "rd"
        refine les_at SL.rws (by omega) fun D H5 nx hD ax => ?_
        replace G := G.same ax
        replace SL := SL.adv (Adv.nil ax)
        replace SR := SR.adv (Adv.nil ax)
        replace A0 := A0.trans (Adv.nil ax)
        clear nx ax
        walk_at "rd"
        refine les_at (.inl hD) (by have := lesF_le le j; omega) fun D2 H6 nx hD2 ax => ?_
        replace G := G.same ax
        replace SL := SL.adv (Adv.nil ax)
        replace SR := SR.adv (Adv.nil ax)
        replace A0 := A0.trans (Adv.nil ax)
        replace hD := Adv.same ax _ _ hD
        clear nx ax
        walk_at "rd"
        refine ⟨by show 1 ≤ sizeLine; decide, fun pm nx => ?_⟩
        have ax : Adv [] H6 (upd H6 pm (.lst [.int (main : Nat)])) := Adv.new nx
        have hm : (upd H6 pm (.lst [.int (main : Nat)])) pm = some (.lst [.int (main : Nat)]) := upd_same
        replace G := G.same ax
        replace SL := SL.adv (Adv.nil ax)
        replace SR := SR.adv (Adv.nil ax)
        replace A0 := A0.trans (Adv.nil ax)
        replace hD := Adv.same ax _ _ hD
        replace hD2 := Adv.same ax _ _ hD2
        generalize (upd H6 pm (.lst [.int (main : Nat)])) = H7 at ax hm G SL SR A0 hD hD2
        clear ax nx
        walk_at "rd"
        refine cat_at hD2 (ys := [main]) hm (by have := lesF_le le j; have := lesF_le (lesF le j) o; simp only [List.length_singleton]; omega) fun C H8 nx hC ax => ?_
        replace G := G.same ax
        replace SL := SL.adv (Adv.nil ax)
        replace SR := SR.adv (Adv.nil ax)
        replace A0 := A0.trans (Adv.nil ax)
        replace hD := Adv.same ax _ _ hD
        replace hD2 := Adv.same ax _ _ hD2
        replace hm := Adv.same ax _ _ hm
        clear nx ax
        walk_at "rd"
        refine ⟨by show 1 ≤ sizeLine; decide, fun pp nx => ?_⟩
        have ax : Adv [] H8 (upd H8 pp (.tup [.int (at_ : Nat)])) := Adv.new nx
        have hpp : (upd H8 pp (.tup [.int (at_ : Nat)])) pp = some (.tup [.int (at_ : Nat)]) := upd_same
        have hppM : pp ∉ M := not_mem_new G.al nx
        replace G := G.same ax
        replace SL := SL.adv (Adv.nil ax)
        replace SR := SR.adv (Adv.nil ax)
        replace A0 := A0.trans (Adv.nil ax)
        replace hD := Adv.same ax _ _ hD
        replace hD2 := Adv.same ax _ _ hD2
        replace hm := Adv.same ax _ _ hm
        replace hC := Adv.same ax _ _ hC
        generalize (upd H8 pp (.tup [.int (at_ : Nat)])) = H9 at ax hpp G SL SR A0 hD hD2 hm hC
        clear ax nx
        walk_at "rd"
        refine G.linE (S' := S + 1) (by omega) (.inl hC) SR.rws (Tp.of hpp hppM) (fun y hy => by
          rcases List.mem_append.mp hy with hy | hy
          · exact SL.b y (lesF_mem (lesF_mem hy))
          · rw [List.mem_singleton.mp hy]; omega) (fun y hy => SR.b y hy) (by have := lesF_le le j; have := lesF_le (lesF le j) o; rw [List.length_append, List.length_singleton]; omega) (by omega) (by omega) (by omega) fun v HF GF aF => ?_
        exact q _ _ _ HF (by omega) (by omega) (by simp) (by rw [List.length_append, List.length_singleton]; omega) GF (A0.trans (aF.more (by simp)))
    walk_at "rd"
    refine iteB (fun e2 => ?_) (fun e2 => ?_)
    · walk_at "rd"
      have hb := hbx (by injection of_decide_eq_true e2)
      refine ⟨by show 2 ≤ sizeLine; decide, fun px nx => ?_⟩
      walk_at "rd"
      refine row_dn (c := 1) (.box j) G.D nx (by simp only [Nd.ok, hb, Bool.true_and, decide_eq_true_eq]; omega) (by omega) (List.prefix_refl _) (by omega) (a_s (Adv.refl _ _)) fun main ns3 H3 d => ?_
      have e2 := d.le
      have g2 := d.ge
      have r2 := d.lt
      replace SL := (SL.adv (d.a.more G.m3)).mono g2 (Nat.le_refl _)
      replace SR := (SR.adv (d.a.more G.m3)).mono g2 (Nat.le_refl _)
      replace A0 := A0.trans (Gw.a4 d.a)
      replace G := G.draw d
      clear d
      walk_at "rd"
      refine iteB (fun e3 => ?_) (fun e3 => ?_)
      · walk_at "rd"
        refine les_at SL.rws (by omega) fun D H4 nx hD ax => ?_
        replace G := G.same ax
        replace SL := SL.adv (Adv.nil ax)
        replace SR := SR.adv (Adv.nil ax)
        replace A0 := A0.trans (Adv.nil ax)
        clear nx ax
        walk_at "rd"
        refine ⟨by show 1 ≤ sizeLine; decide, fun pm nx => ?_⟩
        have ax : Adv [] H4 (upd H4 pm (.lst [.int (main : Nat)])) := Adv.new nx
        have hm : (upd H4 pm (.lst [.int (main : Nat)])) pm = some (.lst [.int (main : Nat)]) := upd_same
        replace G := G.same ax
        replace SL := SL.adv (Adv.nil ax)
        replace SR := SR.adv (Adv.nil ax)
        replace A0 := A0.trans (Adv.nil ax)
        replace hD := Adv.same ax _ _ hD
        generalize (upd H4 pm (.lst [.int (main : Nat)])) = H5 at ax hm G SL SR A0 hD
        clear ax nx
        walk_at "rd"
        refine cat_at hD (ys := [main]) hm (by have := lesF_le le j; simp only [List.length_singleton]; omega) fun C H6 nx hC ax => ?_
        replace G := G.same ax
        replace SL := SL.adv (Adv.nil ax)
        replace SR := SR.adv (Adv.nil ax)
        replace A0 := A0.trans (Adv.nil ax)
        replace hD := Adv.same ax _ _ hD
        replace hm := Adv.same ax _ _ hm
        clear nx ax
        walk_at "rd"
        refine ⟨by show 1 ≤ sizeLine; decide, fun pp nx => ?_⟩
        have ax : Adv [] H6 (upd H6 pp (.tup [.int (at_ : Nat)])) := Adv.new nx
        have hpp : (upd H6 pp (.tup [.int (at_ : Nat)])) pp = some (.tup [.int (at_ : Nat)]) := upd_same
        have hppM : pp ∉ M := not_mem_new G.al nx
        replace G := G.same ax
        replace SL := SL.adv (Adv.nil ax)
        replace SR := SR.adv (Adv.nil ax)
        replace A0 := A0.trans (Adv.nil ax)
        replace hD := Adv.same ax _ _ hD
        replace hm := Adv.same ax _ _ hm
        replace hC := Adv.same ax _ _ hC
        generalize (upd H6 pp (.tup [.int (at_ : Nat)])) = H7 at ax hpp G SL SR A0 hD hm hC
        clear ax nx
        walk_at "rd"
        refine G.linE (S' := S + 1) (by omega) (.inl hC) SR.rws (Tp.of hpp hppM) (fun y hy => by
          rcases List.mem_append.mp hy with hy | hy
          · exact SL.b y (lesF_mem hy)
          · rw [List.mem_singleton.mp hy]; omega) (fun y hy => SR.b y hy) (by have := lesF_le le j; rw [List.length_append, List.length_singleton]; omega) (by omega) (by omega) (by omega) fun v HF GF aF => ?_
        exact q _ _ _ HF (by omega) (by omega) (by simp) (by rw [List.length_append, List.length_singleton]; omega) GF (A0.trans (aF.more (by simp)))
      · walk_at "rd"
        exact q1 _ _ (by omega) (by omega) G A0
    walk_at "rd"
    refine iteB (fun e3 => ?_) (fun e3 => ?_)
    · walk_at "rd"
      refine ⟨fun σ' H' => ∃ (o : Nat) (nsA : List Nd), σ' = [some (.ref st), some (.str x), some (.ref bk), some (.ref ln), some (.int letters), some (.str rule), some (.int (at_ : Nat)), some (.ref l), some (.ref r), some (.int (j : Nat)), some (.int (k : Nat)), some (.int (o : Nat)), none] ∧ ns2.length ≤ nsA.length ∧ nsA.length ≤ ns2.length + 1 ∧ o < nsA.length ∧ Gw M H' st bk b0 b1 ln (logicB x) nsA us S ∧ Sd M H' nsA.length S l le ∧ Sd M H' nsA.length S r ri ∧ Adv [st, b0, b1, ln] H H', ?_, ?_⟩
      · have sqr := SR.sq (K := K)
        walk_at "rd"
        have rs : r ≠ st := fun z => SR.m (by rw [z]; exact G.D.ms)
        refine iteB (fun e5 => ?_) (fun e5 => ?_)
        · have ne : nVl ri ≠ [] := fun z => by
            rw [z] at e5
            exact absurd e5 (by decide)
          walk_at "rd"
          refine ⟨st, 2, M, rfl, G.D.str, by decide, by decide, fun d H3 d0 d1 hs a => ?_⟩
          replace SL := SL.adv (a.more (by simp [G.D.ms]))
          replace SR := SR.adv (a.more (by simp [G.D.ms]))
          replace A0 := A0.trans (a.more (by simp))
          replace G := G.next a hs
          clear a hs
          walk_at "rd"
          refine iteB (fun e6 => ?_) (fun e6 => ?_)
          · walk_at "rd"
            refine ⟨st, r, nVl ri, M, rfl, G.D.str, .inr SR.h, rs, ne, by rw [nVl_ln]; omega, fun o H4 hx hs a => ?_⟩
            obtain ⟨i, hi⟩ := List.mem_iff_getElem?.mp hx
            obtain ⟨o, ho, rfl⟩ := nVl_gt hi
            have hor := SR.b o (List.mem_of_getElem? ho)
            replace SL := SL.adv (a.more (by simp [G.D.ms]))
            replace SR := SR.adv (a.more (by simp [G.D.ms]))
            replace A0 := A0.trans (a.more (by simp))
            replace G := G.next a hs
            clear a hs
            exact ⟨o, _, rfl, Nat.le_refl _, by omega, hor, G, SL, SR, A0⟩
          · walk_at "rd"
            refine ⟨⟨M, st, bk, b0, b1, logicB x, _, letters, rfl, G.D, l0, l1, by omega, fun o nsA H4 d => ?_⟩⟩
            have e2 := d.le
            have g2 := d.ge
            have r2 := d.lt
            replace SL := (SL.adv (d.a.more G.m3)).mono g2 (Nat.le_refl _)
            replace SR := (SR.adv (d.a.more G.m3)).mono g2 (Nat.le_refl _)
            replace A0 := A0.trans (Gw.a4 d.a)
            replace G := G.draw d
            clear d
            exact ⟨o, nsA, rfl, g2, by omega, r2, G, SL, SR, A0⟩
        · walk_at "rd"
          refine ⟨⟨M, st, bk, b0, b1, logicB x, _, letters, rfl, G.D, l0, l1, by omega, fun o nsA H3 d => ?_⟩⟩
          have e2 := d.le
          have g2 := d.ge
          have r2 := d.lt
          replace SL := (SL.adv (d.a.more G.m3)).mono g2 (Nat.le_refl _)
          replace SR := (SR.adv (d.a.more G.m3)).mono g2 (Nat.le_refl _)
          replace A0 := A0.trans (Gw.a4 d.a)
          replace G := G.draw d
          clear d
          exact ⟨o, nsA, rfl, g2, by omega, r2, G, SL, SR, A0⟩
      · rintro σ' HA ⟨o, ns3, rfl, g2, e2, r2, G, SL, SR, A0⟩
        walk_at "rd"
        refine ⟨fun v H' => ∃ (p : Addr) (nd : Nd) (H5 : Hp), v = .ref p ∧ H' = upd H5 p (.tup (nd.keys.map kV)) ∧ H5 p = none ∧ nd.ok (logicB x) ns3.length = true ∧ Adv [st] HA H5 ∧ StrAt M H5 st, ?_, ?_⟩
        · walk_at "rd"
          refine ⟨st, 2, M, rfl, G.D.str, by decide, by decide, fun u H3 u0 u1 hs a => ?_⟩
          walk_at "rd"
          refine iteB (fun e => ?_) (fun e => ?_)
          · walk_at "rd"
            refine ⟨by show 3 ≤ sizeLine; decide, fun px nx => ?_⟩
            exact ⟨px, .bin .or k o, H3, rfl, rfl, nx, by simp only [Nd.ok, Bool.and_eq_true, decide_eq_true_eq]; omega, a, hs⟩
          · walk_at "rd"
            refine ⟨by show 3 ≤ sizeLine; decide, fun px nx => ?_⟩
            exact ⟨px, .bin .or o k, H3, rfl, rfl, nx, by simp only [Nd.ok, Bool.and_eq_true, decide_eq_true_eq]; omega, a, hs⟩
        · rintro v Hx ⟨px, nd, H5, rfl, rfl, nx, ok, a, hs⟩
          replace SL := SL.adv (a.more (by simp [G.D.ms]))
          replace SR := SR.adv (a.more (by simp [G.D.ms]))
          replace A0 := A0.trans (a.more (by simp))
          replace G := G.next a hs
          clear a hs
          walk_at "rd"
          refine row_dn (c := 1) nd G.D nx ok (by omega) (List.prefix_refl _) (by omega) (a_s (Adv.refl _ _)) fun main ns4 H3 d => ?_
          have e3 := d.le
          have g3 := d.ge
          have r3 := d.lt
          replace SL := (SL.adv (d.a.more G.m3)).mono g3 (Nat.le_refl _)
          replace SR := (SR.adv (d.a.more G.m3)).mono g3 (Nat.le_refl _)
          replace A0 := A0.trans (Gw.a4 d.a)
          replace G := G.draw d
          clear d
          walk_at "rd"
          refine les_at SR.rws (by omega) fun D H4 nx hD ax => ?_
          replace G := G.same ax
          replace SL := SL.adv (Adv.nil ax)
          replace SR := SR.adv (Adv.nil ax)
          replace A0 := A0.trans (Adv.nil ax)
          clear nx ax
          walk_at "rd"
          refine les_at (.inl hD) (by have := lesF_le ri k; omega) fun D2 H5 nx hD2 ax => ?_
          replace G := G.same ax
          replace SL := SL.adv (Adv.nil ax)
          replace SR := SR.adv (Adv.nil ax)
          replace A0 := A0.trans (Adv.nil ax)
          replace hD := Adv.same ax _ _ hD
          clear nx ax
          walk_at "rd"
          refine ⟨by show 1 ≤ sizeLine; decide, fun pm nx => ?_⟩
          have ax : Adv [] H5 (upd H5 pm (.lst [.int (main : Nat)])) := Adv.new nx
          have hm : (upd H5 pm (.lst [.int (main : Nat)])) pm = some (.lst [.int (main : Nat)]) := upd_same
          replace G := G.same ax
          replace SL := SL.adv (Adv.nil ax)
          replace SR := SR.adv (Adv.nil ax)
          replace A0 := A0.trans (Adv.nil ax)
          replace hD := Adv.same ax _ _ hD
          replace hD2 := Adv.same ax _ _ hD2
          generalize (upd H5 pm (.lst [.int (main : Nat)])) = H6 at ax hm G SL SR A0 hD hD2
          clear ax nx
          walk_at "rd"
          refine cat_at hD2 (ys := [main]) hm (by have := lesF_le ri k; have := lesF_le (lesF ri k) o; simp only [List.length_singleton]; omega) fun C H7 nx hC ax => ?_
          replace G := G.same ax
          replace SL := SL.adv (Adv.nil ax)
          replace SR := SR.adv (Adv.nil ax)
          replace A0 := A0.trans (Adv.nil ax)
          replace hD := Adv.same ax _ _ hD
          replace hD2 := Adv.same ax _ _ hD2
          replace hm := Adv.same ax _ _ hm
          clear nx ax
          walk_at "rd"
          refine ⟨by show 1 ≤ sizeLine; decide, fun pp nx => ?_⟩
          have ax : Adv [] H7 (upd H7 pp (.tup [.int (at_ : Nat)])) := Adv.new nx
          have hpp : (upd H7 pp (.tup [.int (at_ : Nat)])) pp = some (.tup [.int (at_ : Nat)]) := upd_same
          have hppM : pp ∉ M := not_mem_new G.al nx
          replace G := G.same ax
          replace SL := SL.adv (Adv.nil ax)
          replace SR := SR.adv (Adv.nil ax)
          replace A0 := A0.trans (Adv.nil ax)
          replace hD := Adv.same ax _ _ hD
          replace hD2 := Adv.same ax _ _ hD2
          replace hm := Adv.same ax _ _ hm
          replace hC := Adv.same ax _ _ hC
          generalize (upd H7 pp (.tup [.int (at_ : Nat)])) = H8 at ax hpp G SL SR A0 hD hD2 hm hC
          clear ax nx
          walk_at "rd"
          refine G.linE (S' := S + 1) (by omega) SL.rws (.inl hC) (Tp.of hpp hppM) (fun y hy => SL.b y hy) (fun y hy => by
            rcases List.mem_append.mp hy with hy | hy
            · exact SR.b y (lesF_mem (lesF_mem hy))
            · rw [List.mem_singleton.mp hy]; omega) (by omega) (by have := lesF_le ri k; have := lesF_le (lesF ri k) o; rw [List.length_append, List.length_singleton]; omega) (by omega) (by omega) fun v HF GF aF => ?_
          exact q _ _ _ HF (by omega) (by omega) (by simp) (by rw [List.length_append, List.length_singleton]; omega) GF (A0.trans (aF.more (by simp)))
    walk_at "rd"
    refine iteB (fun e4 => ?_) (fun e4 => ?_)
    · have sqr := SR.sq (K := K)
      walk_at "rd"
      refine ⟨fun σ' H' => H' = H2 ∧ σ' = [some (.ref st), some (.str x), some (.ref bk), some (.ref ln), some (.int letters), some (.str rule), some (.int (at_ : Nat)), some (.ref l), some (.ref r), some (.int (j : Nat)), some (.int (k : Nat)), none, none], ?_, ?_⟩
      · walk_at "rd"
        refine iteB (fun e5 => ?_) (fun e5 => ?_)
        · walk_at "rd"
          refine iteB (fun e6 => ?_) (fun e6 => ?_)
          · walk_at "rd"
            exact q1 _ _ (by omega) (by omega) G A0
          · walk_at "rd"
            exact rfl
        · walk_at "rd"
          exact rfl
      · rintro σ' H' ⟨rfl, rfl⟩
        walk_at "rd"
        refine ⟨by show 3 ≤ sizeLine; decide, fun px nx => ?_⟩
        walk_at "rd"
        refine row_dn (c := 1) (.bin .imp j k) G.D nx (by simp only [Nd.ok, Bool.and_eq_true, decide_eq_true_eq]; omega) (by omega) (List.prefix_refl _) (by omega) (a_s (Adv.refl _ _)) fun main ns3 H3 d => ?_
        have e2 := d.le
        have g2 := d.ge
        have r2 := d.lt
        replace SL := (SL.adv (d.a.more G.m3)).mono g2 (Nat.le_refl _)
        replace SR := (SR.adv (d.a.more G.m3)).mono g2 (Nat.le_refl _)
        replace A0 := A0.trans (Gw.a4 d.a)
        replace G := G.draw d
        clear d
        walk_at "rd"
        refine les_at SL.rws (by omega) fun D H4 nx hD ax => ?_
        replace G := G.same ax
        replace SL := SL.adv (Adv.nil ax)
        replace SR := SR.adv (Adv.nil ax)
        replace A0 := A0.trans (Adv.nil ax)
        clear nx ax
        walk_at "rd"
        refine les_at SR.rws (by omega) fun D2 H5 nx hD2 ax => ?_
        replace G := G.same ax
        replace SL := SL.adv (Adv.nil ax)
        replace SR := SR.adv (Adv.nil ax)
        replace A0 := A0.trans (Adv.nil ax)
        replace hD := Adv.same ax _ _ hD
        clear nx ax
        walk_at "rd"
        refine ⟨by show 1 ≤ sizeLine; decide, fun pm nx => ?_⟩
        have ax : Adv [] H5 (upd H5 pm (.lst [.int (main : Nat)])) := Adv.new nx
        have hm : (upd H5 pm (.lst [.int (main : Nat)])) pm = some (.lst [.int (main : Nat)]) := upd_same
        replace G := G.same ax
        replace SL := SL.adv (Adv.nil ax)
        replace SR := SR.adv (Adv.nil ax)
        replace A0 := A0.trans (Adv.nil ax)
        replace hD := Adv.same ax _ _ hD
        replace hD2 := Adv.same ax _ _ hD2
        generalize (upd H5 pm (.lst [.int (main : Nat)])) = H6 at ax hm G SL SR A0 hD hD2
        clear ax nx
        walk_at "rd"
        refine cat_at hD2 (ys := [main]) hm (by have := lesF_le ri k; simp only [List.length_singleton]; omega) fun C H7 nx hC ax => ?_
        replace G := G.same ax
        replace SL := SL.adv (Adv.nil ax)
        replace SR := SR.adv (Adv.nil ax)
        replace A0 := A0.trans (Adv.nil ax)
        replace hD := Adv.same ax _ _ hD
        replace hD2 := Adv.same ax _ _ hD2
        replace hm := Adv.same ax _ _ hm
        clear nx ax
        walk_at "rd"
        refine ⟨by show 1 ≤ sizeLine; decide, fun pp nx => ?_⟩
        have ax : Adv [] H7 (upd H7 pp (.tup [.int (at_ : Nat)])) := Adv.new nx
        have hpp : (upd H7 pp (.tup [.int (at_ : Nat)])) pp = some (.tup [.int (at_ : Nat)]) := upd_same
        have hppM : pp ∉ M := not_mem_new G.al nx
        replace G := G.same ax
        replace SL := SL.adv (Adv.nil ax)
        replace SR := SR.adv (Adv.nil ax)
        replace A0 := A0.trans (Adv.nil ax)
        replace hD := Adv.same ax _ _ hD
        replace hD2 := Adv.same ax _ _ hD2
        replace hm := Adv.same ax _ _ hm
        replace hC := Adv.same ax _ _ hC
        generalize (upd H7 pp (.tup [.int (at_ : Nat)])) = H8 at ax hpp G SL SR A0 hD hD2 hm hC
        clear ax nx
        walk_at "rd"
        refine G.linE (S' := S + 1) (by omega) (.inl hD) (.inl hC) (Tp.of hpp hppM) (fun y hy => SL.b y (lesF_mem hy)) (fun y hy => by
          rcases List.mem_append.mp hy with hy | hy
          · exact SR.b y (lesF_mem hy)
          · rw [List.mem_singleton.mp hy]; omega) (by have := lesF_le le j; omega) (by have := lesF_le ri k; rw [List.length_append, List.length_singleton]; omega) (by omega) (by omega) fun v HF GF aF => ?_
        exact q _ _ _ HF (by omega) (by omega) (by simp) (by rw [List.length_append, List.length_singleton]; omega) GF (A0.trans (aF.more (by simp)))
    · walk_at "rd"
      refine ⟨⟨M, st, bk, b0, b1, ln, x, _, us, S, at_, k, rfl, G, hat, by omega, by omega, by omega, by omega, fun HF GF aF => q1 _ _ (by omega) (by omega) GF (A0.trans aF), fun rr nsF usF HF f1 f2 f3 f4 GF aF => q _ _ _ _ (by omega) (by omega) f3 (by omega) (GF.mono (by omega)) (A0.trans aF)⟩⟩
end

set_option Elab.async false
set_option linter.all false
set_option maxRecDepth 100000
set_option maxHeartbeats 4000000
open PySem PySem.Spec PyProof.Rows L2 LL
open C8 (pss_cut)
section
variable [KW]
variable {P : Program} {w : World} {K : PySem.W.Frag} {mg : Str → Option Value} {base : Heap}
/-! ### _law_grow_two -/
structure GtwP (vs : List V) (H : Hp) (Q : VK) : Prop where
  ex : ∃ (M : List Addr) (s bk b0 b1 ln : Addr) (bx : Bool) (rule : Str) (ns : List Nd) (us : List V) (S at_ by_ : Nat) (letters : Int), vs = [.ref s, .ref bk, .ref ln, .int letters, .str rule, .int (at_ : Nat), .int (by_ : Nat)] ∧ Gw M H s bk b0 b1 ln bx ns us S ∧ at_ < us.length ∧ by_ < us.length ∧ 0 < letters ∧ letters ≤ 8 ∧ ns.length ≤ 90000 ∧ us.length ≤ 500000 ∧ S ≤ 1950 ∧
    ∀ v ns' H', ns.length ≤ ns'.length → ns'.length ≤ ns.length + 3 → Gw M H' s bk b0 b1 ln bx ns' (us ++ [v]) (S + S + 1) → Adv [s, b0, b1, ln] H H' → Q (.int (us.length : Nat)) H'
def spGtw : Sp := fun vs H Q _ => GtwP vs H Q
theorem ok_law_grow_two (A : All K mg w) : FnOk P w K mg base CX0 7 A.law_grow_two.f A.law_grow_two.fd ["stream", "book", "lines", "letters", "rule", "at", "by"] spGtw := by
  refine A.law_grow_two.F.ok sc_law_grow_two (fun vs H Q E h => ?_) (fun cdv Ar outer s H vs Q E hr h => ?_)
  · obtain ⟨M, s, bk, b0, b1, ln, bx, rule, ns, us, S, at_, by_, letters, rfl, _⟩ := h.ex
    rfl
  · obtain ⟨M, st, bk, b0, b1, ln, bx, rule, ns, us, S, at_, by_, letters, rfl, G, hat, hby, l0, l1, hz, hu, hS, q⟩ := h.ex
    refine ⟨_, (pss_cons (ps_par (i := 7) (j := 8) (by rfl) sc_law_grow_two.nd rfl rfl (by decide) rfl rfl (pa_cons (pe_ix (ix_listK K rfl) (pv 2) (pv 5) (fun _ _ => rfl)) (pa_cons (pe_ix (ix_listK K rfl) (pv 2) (pv 6) (fun _ _ => rfl)) pa_nil)) (by rfl))
  (pss_cons (ps_if (pt_cmpR op_eq (pv 4) pe_str (nomark _))
    (pss_cons (ps_par (i := 9) (j := 10) (by rfl) sc_law_grow_two.nd rfl rfl (by decide) rfl rfl (pa_cons (pe_call (ok_law_part A) (hr.mono (by omega)) rfl A.law_part.m A.law_part.F.kp A.law_part.b .nil pass0 (pa_cons (pv 0) (pa_cons (pv 1) (pa_cons (pe_ix ix_tup (pv 7) pe_int (fun _ _ => rfl)) (pa_cons (pv 3) pa_nil))))) (pa_cons (pe_call (ok_law_part A) (hr.mono (by omega)) rfl A.law_part.m A.law_part.F.kp A.law_part.b .nil pass0 (pa_cons (pv 0) (pa_cons (pv 1) (pa_cons (pe_ix ix_tup (pv 8) pe_int (fun _ _ => rfl)) (pa_cons (pv 3) pa_nil))))) pa_nil)) (by rfl))
  (pss_cons (ps_set (i := 11) sc_law_grow_two.nd rfl (Or.inl rfl) (pe_call (ok_law_row A) (hr.mono (by omega)) rfl A.law_row.m A.law_row.F.kp A.law_row.b .nil pass0 (pa_cons (pv 1) (pa_cons (pe_tup (pa_cons pe_str (pa_cons (pv 9) (pa_cons (pv 10) pa_nil)))) pa_nil))))
  (pss_one (ps_ret (pe_call (ok_law_line A) (hr.mono (by omega)) rfl A.law_line.m A.law_line.F.kp A.law_line.b .nil pass0 (pa_cons (pv 2) (pa_cons (pe_op op_cat (pe_op op_cat (pe_call (ok_law_less A) (hr.mono (by omega)) rfl A.law_less.m A.law_less.F.kp A.law_less.b .nil pass0 (pa_cons (pe_ix ix_tup (pv 7) pe_int (fun _ _ => rfl)) (pa_cons (pv 9) pa_nil))) (pe_call (ok_law_less A) (hr.mono (by omega)) rfl A.law_less.m A.law_less.F.kp A.law_less.b .nil pass0 (pa_cons (pe_ix ix_tup (pv 8) pe_int (fun _ _ => rfl)) (pa_cons (pv 10) pa_nil)))) (pe_lst (pa_cons (pv 11) pa_nil))) (pa_cons (pe_op op_catA (pe_ix ix_tup (pv 7) pe_int (fun _ _ => rfl)) (pe_ix ix_tup (pv 8) pe_int (fun _ _ => rfl))) (pa_cons (pv 4) (pa_cons (pe_tup (pa_cons (pv 5) (pa_cons (pv 6) pa_nil))) (pa_cons (pv 11) pa_nil)))))))))))
    pss_nil)
  (pss_cons (ps_set (i := 9) sc_law_grow_two.nd rfl (Or.inl rfl) (pe_call (ok_law_part A) (hr.mono (by omega)) rfl A.law_part.m A.law_part.F.kp A.law_part.b .nil pass0 (pa_cons (pv 0) (pa_cons (pv 1) (pa_cons (pe_ix ix_tup (pv 7) pe_int (fun _ _ => rfl)) (pa_cons (pv 3) pa_nil))))))
  (pss_cons (ps_if (pt_cmpR op_eq (pv 4) pe_str (nomark _))
    (pss_cons (ps_set (i := 10) sc_law_grow_two.nd rfl (Or.inl rfl) (pe_call (ok_law_part A) (hr.mono (by omega)) rfl A.law_part.m A.law_part.F.kp A.law_part.b .nil pass0 (pa_cons (pv 0) (pa_cons (pv 1) (pa_cons (pe_ix ix_tup (pv 8) pe_int (fun _ _ => rfl)) (pa_cons (pv 3) pa_nil))))))
  (pss_cons (ps_set (i := 11) sc_law_grow_two.nd rfl (Or.inl rfl) (pe_call (ok_law_row A) (hr.mono (by omega)) rfl A.law_row.m A.law_row.F.kp A.law_row.b .nil pass0 (pa_cons (pv 1) (pa_cons (pe_tup (pa_cons pe_str (pa_cons (pv 9) (pa_cons (pv 10) pa_nil)))) pa_nil))))
  (pss_one (ps_ret (pe_call (ok_law_line A) (hr.mono (by omega)) rfl A.law_line.m A.law_line.F.kp A.law_line.b .nil pass0 (pa_cons (pv 2) (pa_cons (pe_op op_catA (pe_ix ix_tup (pv 7) pe_int (fun _ _ => rfl)) (pe_ix ix_tup (pv 8) pe_int (fun _ _ => rfl))) (pa_cons (pe_op op_cat (pe_op op_cat (pe_call (ok_law_less A) (hr.mono (by omega)) rfl A.law_less.m A.law_less.F.kp A.law_less.b .nil pass0 (pa_cons (pe_ix ix_tup (pv 7) pe_int (fun _ _ => rfl)) (pa_cons (pv 9) pa_nil))) (pe_call (ok_law_less A) (hr.mono (by omega)) rfl A.law_less.m A.law_less.F.kp A.law_less.b .nil pass0 (pa_cons (pe_ix ix_tup (pv 8) pe_int (fun _ _ => rfl)) (pa_cons (pv 10) pa_nil)))) (pe_lst (pa_cons (pv 11) pa_nil))) (pa_cons (pv 4) (pa_cons (pe_tup (pa_cons (pv 5) (pa_cons (pv 6) pa_nil))) (pa_cons (pv 11) pa_nil)))))))))))
    pss_nil)
  (pss_cons (ps_if (pt_cmpR op_eq (pv 4) pe_str (nomark _))
    (pss_one (ps_ret (pe_call (ok_law_line A) (hr.mono (by omega)) rfl A.law_line.m A.law_line.F.kp A.law_line.b .nil pass0 (pa_cons (pv 2) (pa_cons (pe_op op_cat (pe_callTy call_list_of (by rfl) A.T.list (by decide +kernel) (pa_cons (pe_ix ix_tup (pv 7) pe_int (fun _ _ => rfl)) pa_nil)) (pe_call (ok_law_less A) (hr.mono (by omega)) rfl A.law_less.m A.law_less.F.kp A.law_less.b .nil pass0 (pa_cons (pe_ix ix_tup (pv 8) pe_int (fun _ _ => rfl)) (pa_cons (pv 9) pa_nil)))) (pa_cons (pe_op op_cat (pe_call (ok_law_less A) (hr.mono (by omega)) rfl A.law_less.m A.law_less.F.kp A.law_less.b .nil pass0 (pa_cons (pe_ix ix_tup (pv 7) pe_int (fun _ _ => rfl)) (pa_cons (pv 9) pa_nil))) (pe_callTy call_list_of (by rfl) A.T.list (by decide +kernel) (pa_cons (pe_ix ix_tup (pv 8) pe_int (fun _ _ => rfl)) pa_nil))) (pa_cons (pv 4) (pa_cons (pe_tup (pa_cons (pv 5) (pa_cons (pv 6) pa_nil))) (pa_cons (pv 9) pa_nil)))))))))
    pss_nil)
  (pss_cons (ps_set (i := 10) sc_law_grow_two.nd rfl (Or.inl rfl) (pe_call (ok_law_part A) (hr.mono (by omega)) rfl A.law_part.m A.law_part.F.kp A.law_part.b .nil pass0 (pa_cons (pv 0) (pa_cons (pv 1) (pa_cons (pe_ix ix_tup (pv 8) pe_int (fun _ _ => rfl)) (pa_cons (pv 3) pa_nil))))))
  (pss_cons (ps_set (i := 11) sc_law_grow_two.nd rfl (Or.inl rfl) (pe_call (ok_law_row A) (hr.mono (by omega)) rfl A.law_row.m A.law_row.F.kp A.law_row.b .nil pass0 (pa_cons (pv 1) (pa_cons (pe_tup (pa_cons pe_str (pa_cons (pv 9) (pa_cons (pv 10) pa_nil)))) pa_nil))))
  (pss_one (ps_ret (pe_call (ok_law_line A) (hr.mono (by omega)) rfl A.law_line.m A.law_line.F.kp A.law_line.b .nil pass0 (pa_cons (pv 2) (pa_cons (pe_op op_cat (pe_op op_cat (pe_callTy call_list_of (by rfl) A.T.list (by decide +kernel) (pa_cons (pe_ix ix_tup (pv 7) pe_int (fun _ _ => rfl)) pa_nil)) (pe_call (ok_law_less A) (hr.mono (by omega)) rfl A.law_less.m A.law_less.F.kp A.law_less.b .nil pass0 (pa_cons (pe_ix ix_tup (pv 8) pe_int (fun _ _ => rfl)) (pa_cons (pv 10) pa_nil)))) (pe_lst (pa_cons (pv 11) pa_nil))) (pa_cons (pe_op op_cat (pe_call (ok_law_less A) (hr.mono (by omega)) rfl A.law_less.m A.law_less.F.kp A.law_less.b .nil pass0 (pa_cons (pe_ix ix_tup (pv 7) pe_int (fun _ _ => rfl)) (pa_cons (pv 9) pa_nil))) (pe_callTy call_list_of (by rfl) A.T.list (by decide +kernel) (pa_cons (pe_ix ix_tup (pv 8) pe_int (fun _ _ => rfl)) pa_nil))) (pa_cons (pv 4) (pa_cons (pe_tup (pa_cons (pv 5) (pa_cons (pv 6) pa_nil))) (pa_cons (pv 11) pa_nil)))))))))))))))), ?_⟩
    have W := A.W
    obtain ⟨le1, ri1, X1⟩ := G.ok us[at_] (List.getElem_mem _)
    obtain ⟨t1, l1_, r1_, a1, a2, a3, et1, ht1, tM1, La, Ra⟩ := X1.sides
    obtain ⟨le2, ri2, X2⟩ := G.ok us[by_] (List.getElem_mem _)
    obtain ⟨t2, l2_, r2_, c1, c2, c3, et2, ht2, tM2, Lb, Rb⟩ := X2.sides
    have hus1 : us[at_]? = some (.ref t1) := by rw [List.getElem?_eq_getElem hat, et1]
    have hus2 : us[by_]? = some (.ref t2) := by rw [List.getElem?_eq_getElem hby, et2]
    have hln := G.hl
    have T1 := Tp.of ht1 tM1
    have T2 := Tp.of ht2 tM2
    clear X1 X2
    walk_at "rd"
    clear hln ht1 ht2 tM1 tM2 hus1 hus2 et1 et2
    have A0 : Adv [st, b0, b1, ln] H H := Adv.refl _ _
    have zl1 := La.z
    have zr1 := Ra.z
    have zl2 := Lb.z
    have zr2 := Rb.z
    walk_at "rd"
    refine iteB (fun e => ?_) (fun e => ?_)
    · walk_at "rd"
      refine ⟨⟨M, st, bk, b0, b1, _, _, _, le1, letters, rfl, G.D, La.h, La.b, by have := La.z; omega, l0, l1, by omega, fun j ns1 H1 d => ?_⟩⟩
      have e0 := d.le
      have g0 := d.ge
      have r0 := d.lt
      replace T1 := Tp.adv T1 (d.a.more G.m3)
      replace T2 := Tp.adv T2 (d.a.more G.m3)
      replace La := (La.adv (d.a.more G.m3)).mono g0 (Nat.le_refl _)
      replace Ra := (Ra.adv (d.a.more G.m3)).mono g0 (Nat.le_refl _)
      replace Lb := (Lb.adv (d.a.more G.m3)).mono g0 (Nat.le_refl _)
      replace Rb := (Rb.adv (d.a.more G.m3)).mono g0 (Nat.le_refl _)
      replace A0 := A0.trans (Gw.a4 d.a)
      replace G := G.draw d
      clear d
      walk_at "rd"
      refine ⟨⟨M, st, bk, b0, b1, _, _, _, le2, letters, rfl, G.D, Lb.h, Lb.b, by have := Lb.z; omega, l0, l1, by omega, fun k ns2 H2 d => ?_⟩⟩
      have e1 := d.le
      have g1 := d.ge
      have r1 := d.lt
      replace T1 := Tp.adv T1 (d.a.more G.m3)
      replace T2 := Tp.adv T2 (d.a.more G.m3)
      replace La := (La.adv (d.a.more G.m3)).mono g1 (Nat.le_refl _)
      replace Ra := (Ra.adv (d.a.more G.m3)).mono g1 (Nat.le_refl _)
      replace Lb := (Lb.adv (d.a.more G.m3)).mono g1 (Nat.le_refl _)
      replace Rb := (Rb.adv (d.a.more G.m3)).mono g1 (Nat.le_refl _)
      replace A0 := A0.trans (Gw.a4 d.a)
      replace G := G.draw d
      clear d
      walk_at "rd"
      refine ⟨by show 3 ≤ sizeLine; decide, fun px nx => ?_⟩
      walk_at "rd"
      refine row_dn (c := 1) (.bin .or j k) G.D nx (by simp only [Nd.ok, Bool.and_eq_true, decide_eq_true_eq]; omega) (by omega) (List.prefix_refl _) (by omega) (a_s (Adv.refl _ _)) fun main ns3 H3 d => ?_
      have e2 := d.le
      have g2 := d.ge
      have r2 := d.lt
      replace T1 := Tp.adv T1 (d.a.more G.m3)
      replace T2 := Tp.adv T2 (d.a.more G.m3)
      replace La := (La.adv (d.a.more G.m3)).mono g2 (Nat.le_refl _)
      replace Ra := (Ra.adv (d.a.more G.m3)).mono g2 (Nat.le_refl _)
      replace Lb := (Lb.adv (d.a.more G.m3)).mono g2 (Nat.le_refl _)
      replace Rb := (Rb.adv (d.a.more G.m3)).mono g2 (Nat.le_refl _)
      replace A0 := A0.trans (Gw.a4 d.a)
      replace G := G.draw d
      clear d
      walk_at "rd"
      refine les_at La.rws (by omega) fun D H4 nx hD ax => ?_
      replace G := G.same ax
      replace T1 := Tp.adv T1 (Adv.nil ax)
      replace T2 := Tp.adv T2 (Adv.nil ax)
      replace La := La.adv (Adv.nil ax)
      replace Ra := Ra.adv (Adv.nil ax)
      replace Lb := Lb.adv (Adv.nil ax)
      replace Rb := Rb.adv (Adv.nil ax)
      replace A0 := A0.trans (Adv.nil ax)
      clear nx ax
      walk_at "rd"
      refine les_at Lb.rws (by omega) fun D2 H5 nx hD2 ax => ?_
      replace G := G.same ax
      replace T1 := Tp.adv T1 (Adv.nil ax)
      replace T2 := Tp.adv T2 (Adv.nil ax)
      replace La := La.adv (Adv.nil ax)
      replace Ra := Ra.adv (Adv.nil ax)
      replace Lb := Lb.adv (Adv.nil ax)
      replace Rb := Rb.adv (Adv.nil ax)
      replace A0 := A0.trans (Adv.nil ax)
      replace hD := Adv.same ax _ _ hD
      clear nx ax
      walk_at "rd"
      refine cat_at hD hD2 (by have := lesF_le le1 j; have := lesF_le le2 k; (try simp only [List.length_append, List.length_singleton]); omega) fun C H6 nx hC ax => ?_
      replace G := G.same ax
      replace T1 := Tp.adv T1 (Adv.nil ax)
      replace T2 := Tp.adv T2 (Adv.nil ax)
      replace La := La.adv (Adv.nil ax)
      replace Ra := Ra.adv (Adv.nil ax)
      replace Lb := Lb.adv (Adv.nil ax)
      replace Rb := Rb.adv (Adv.nil ax)
      replace A0 := A0.trans (Adv.nil ax)
      replace hD := Adv.same ax _ _ hD
      replace hD2 := Adv.same ax _ _ hD2
      clear nx ax
      walk_at "rd"
      refine ⟨by show 1 ≤ sizeLine; decide, fun pm nx => ?_⟩
      have ax : Adv [] H6 (upd H6 pm (.lst [.int (main : Nat)])) := Adv.new nx
      have hm : (upd H6 pm (.lst [.int (main : Nat)])) pm = some (.lst [.int (main : Nat)]) := upd_same
      replace G := G.same ax
      replace T1 := Tp.adv T1 (Adv.nil ax)
      replace T2 := Tp.adv T2 (Adv.nil ax)
      replace La := La.adv (Adv.nil ax)
      replace Ra := Ra.adv (Adv.nil ax)
      replace Lb := Lb.adv (Adv.nil ax)
      replace Rb := Rb.adv (Adv.nil ax)
      replace A0 := A0.trans (Adv.nil ax)
      replace hD := Adv.same ax _ _ hD
      replace hD2 := Adv.same ax _ _ hD2
      replace hC := Adv.same ax _ _ hC
      generalize (upd H6 pm (.lst [.int (main : Nat)])) = H7 at ax hm G T1 T2 La Ra Lb Rb A0 hD hD2 hC
      clear ax nx
      walk_at "rd"
      refine cat_at hC (ys := [main]) hm (by have := lesF_le le1 j; have := lesF_le le2 k; (try simp only [List.length_append, List.length_singleton]); omega) fun C2 H8 nx hC2 ax => ?_
      replace G := G.same ax
      replace T1 := Tp.adv T1 (Adv.nil ax)
      replace T2 := Tp.adv T2 (Adv.nil ax)
      replace La := La.adv (Adv.nil ax)
      replace Ra := Ra.adv (Adv.nil ax)
      replace Lb := Lb.adv (Adv.nil ax)
      replace Rb := Rb.adv (Adv.nil ax)
      replace A0 := A0.trans (Adv.nil ax)
      replace hD := Adv.same ax _ _ hD
      replace hD2 := Adv.same ax _ _ hD2
      replace hC := Adv.same ax _ _ hC
      replace hm := Adv.same ax _ _ hm
      clear nx ax
      walk_at "rd"
      refine rd_catM A.W G.al (Tp.of Ra.h Ra.m) (Tp.of Rb.h Rb.m) (by rw [sizeLine_eq, nVl_ln, nVl_ln]; omega) fun X H9 hX ax => ?_
      rw [nVl_app] at hX
      replace G := G.same ax
      replace T1 := Tp.adv T1 (Adv.nil ax)
      replace T2 := Tp.adv T2 (Adv.nil ax)
      replace La := La.adv (Adv.nil ax)
      replace Ra := Ra.adv (Adv.nil ax)
      replace Lb := Lb.adv (Adv.nil ax)
      replace Rb := Rb.adv (Adv.nil ax)
      replace A0 := A0.trans (Adv.nil ax)
      replace hD := Adv.same ax _ _ hD
      replace hD2 := Adv.same ax _ _ hD2
      replace hC := Adv.same ax _ _ hC
      replace hm := Adv.same ax _ _ hm
      replace hC2 := Adv.same ax _ _ hC2
      clear ax
      walk_at "rd"
      refine ⟨by show 2 ≤ sizeLine; decide, fun pp nx => ?_⟩
      have ax : Adv [] H9 (upd H9 pp (.tup [.int (at_ : Nat), .int (by_ : Nat)])) := Adv.new nx
      have hpp : (upd H9 pp (.tup [.int (at_ : Nat), .int (by_ : Nat)])) pp = some (.tup [.int (at_ : Nat), .int (by_ : Nat)]) := upd_same
      have hppM : pp ∉ M := not_mem_new G.al nx
      replace G := G.same ax
      replace T1 := Tp.adv T1 (Adv.nil ax)
      replace T2 := Tp.adv T2 (Adv.nil ax)
      replace La := La.adv (Adv.nil ax)
      replace Ra := Ra.adv (Adv.nil ax)
      replace Lb := Lb.adv (Adv.nil ax)
      replace Rb := Rb.adv (Adv.nil ax)
      replace A0 := A0.trans (Adv.nil ax)
      replace hD := Adv.same ax _ _ hD
      replace hD2 := Adv.same ax _ _ hD2
      replace hC := Adv.same ax _ _ hC
      replace hm := Adv.same ax _ _ hm
      replace hC2 := Adv.same ax _ _ hC2
      replace hX := Tp.adv hX (Adv.nil ax)
      generalize (upd H9 pp (.tup [.int (at_ : Nat), .int (by_ : Nat)])) = H10 at ax hpp G T1 T2 La Ra Lb Rb A0 hD hD2 hC hm hC2 hX
      clear ax nx
      walk_at "rd"
      refine G.linE (S' := S + S + 1) (by omega) (.inl hC2) (.inr (hX.less (by simp))) (Tp.of hpp hppM) (fun y hy => by
        rcases List.mem_append.mp hy with hy | hy
        · exact (List.mem_append.mp hy).elim (fun hy => La.b y (lesF_mem hy)) (fun hy => Lb.b y (lesF_mem hy))
        · rw [List.mem_singleton.mp hy]; omega) (fun y hy => by
        rcases List.mem_append.mp hy with hy | hy
        · exact Ra.b y hy
        · exact Rb.b y hy) (by have := lesF_le le1 j; have := lesF_le le2 k; simp only [List.length_append, List.length_singleton]; omega) (by  simp only [List.length_append, List.length_singleton]; omega) (by omega) (by omega) fun v HF GF aF => ?_
      exact q v _ HF (by omega) (by omega) GF (A0.trans (aF.more (by simp)))
    walk_at "rd"
    refine ⟨⟨M, st, bk, b0, b1, _, _, _, ri1, letters, rfl, G.D, Ra.h, Ra.b, by have := Ra.z; omega, l0, l1, by omega, fun j ns1 H1 d => ?_⟩⟩
    have e0 := d.le
    have g0 := d.ge
    have r0 := d.lt
    replace T1 := Tp.adv T1 (d.a.more G.m3)
    replace T2 := Tp.adv T2 (d.a.more G.m3)
    replace La := (La.adv (d.a.more G.m3)).mono g0 (Nat.le_refl _)
    replace Ra := (Ra.adv (d.a.more G.m3)).mono g0 (Nat.le_refl _)
    replace Lb := (Lb.adv (d.a.more G.m3)).mono g0 (Nat.le_refl _)
    replace Rb := (Rb.adv (d.a.more G.m3)).mono g0 (Nat.le_refl _)
    replace A0 := A0.trans (Gw.a4 d.a)
    replace G := G.draw d
    clear d
    walk_at "rd"
    refine iteB (fun e2 => ?_) (fun e2 => ?_)
    · walk_at "rd"
      refine ⟨⟨M, st, bk, b0, b1, _, _, _, ri2, letters, rfl, G.D, Rb.h, Rb.b, by have := Rb.z; omega, l0, l1, by omega, fun k ns2 H2 d => ?_⟩⟩
      have e1 := d.le
      have g1 := d.ge
      have r1 := d.lt
      replace T1 := Tp.adv T1 (d.a.more G.m3)
      replace T2 := Tp.adv T2 (d.a.more G.m3)
      replace La := (La.adv (d.a.more G.m3)).mono g1 (Nat.le_refl _)
      replace Ra := (Ra.adv (d.a.more G.m3)).mono g1 (Nat.le_refl _)
      replace Lb := (Lb.adv (d.a.more G.m3)).mono g1 (Nat.le_refl _)
      replace Rb := (Rb.adv (d.a.more G.m3)).mono g1 (Nat.le_refl _)
      replace A0 := A0.trans (Gw.a4 d.a)
      replace G := G.draw d
      clear d
      walk_at "rd"
      refine ⟨by show 3 ≤ sizeLine; decide, fun px nx => ?_⟩
      walk_at "rd"
      refine row_dn (c := 1) (.bin .and j k) G.D nx (by simp only [Nd.ok, Bool.and_eq_true, decide_eq_true_eq]; omega) (by omega) (List.prefix_refl _) (by omega) (a_s (Adv.refl _ _)) fun main ns3 H3 d => ?_
      have e2 := d.le
      have g2 := d.ge
      have r2 := d.lt
      replace T1 := Tp.adv T1 (d.a.more G.m3)
      replace T2 := Tp.adv T2 (d.a.more G.m3)
      replace La := (La.adv (d.a.more G.m3)).mono g2 (Nat.le_refl _)
      replace Ra := (Ra.adv (d.a.more G.m3)).mono g2 (Nat.le_refl _)
      replace Lb := (Lb.adv (d.a.more G.m3)).mono g2 (Nat.le_refl _)
      replace Rb := (Rb.adv (d.a.more G.m3)).mono g2 (Nat.le_refl _)
      replace A0 := A0.trans (Gw.a4 d.a)
      replace G := G.draw d
      clear d
      walk_at "rd"
      refine rd_catM A.W G.al (Tp.of La.h La.m) (Tp.of Lb.h Lb.m) (by rw [sizeLine_eq, nVl_ln, nVl_ln]; omega) fun X H4 hX ax => ?_
      rw [nVl_app] at hX
      replace G := G.same ax
      replace T1 := Tp.adv T1 (Adv.nil ax)
      replace T2 := Tp.adv T2 (Adv.nil ax)
      replace La := La.adv (Adv.nil ax)
      replace Ra := Ra.adv (Adv.nil ax)
      replace Lb := Lb.adv (Adv.nil ax)
      replace Rb := Rb.adv (Adv.nil ax)
      replace A0 := A0.trans (Adv.nil ax)
      clear ax
      walk_at "rd"
      refine les_at Ra.rws (by omega) fun D H5 nx hD ax => ?_
      replace G := G.same ax
      replace T1 := Tp.adv T1 (Adv.nil ax)
      replace T2 := Tp.adv T2 (Adv.nil ax)
      replace La := La.adv (Adv.nil ax)
      replace Ra := Ra.adv (Adv.nil ax)
      replace Lb := Lb.adv (Adv.nil ax)
      replace Rb := Rb.adv (Adv.nil ax)
      replace A0 := A0.trans (Adv.nil ax)
      replace hX := Tp.adv hX (Adv.nil ax)
      clear nx ax
      walk_at "rd"
      refine les_at Rb.rws (by omega) fun D2 H6 nx hD2 ax => ?_
      replace G := G.same ax
      replace T1 := Tp.adv T1 (Adv.nil ax)
      replace T2 := Tp.adv T2 (Adv.nil ax)
      replace La := La.adv (Adv.nil ax)
      replace Ra := Ra.adv (Adv.nil ax)
      replace Lb := Lb.adv (Adv.nil ax)
      replace Rb := Rb.adv (Adv.nil ax)
      replace A0 := A0.trans (Adv.nil ax)
      replace hX := Tp.adv hX (Adv.nil ax)
      replace hD := Adv.same ax _ _ hD
      clear nx ax
      walk_at "rd"
      refine cat_at hD hD2 (by have := lesF_le ri1 j; have := lesF_le ri2 k; (try simp only [List.length_append, List.length_singleton]); omega) fun C H7 nx hC ax => ?_
      replace G := G.same ax
      replace T1 := Tp.adv T1 (Adv.nil ax)
      replace T2 := Tp.adv T2 (Adv.nil ax)
      replace La := La.adv (Adv.nil ax)
      replace Ra := Ra.adv (Adv.nil ax)
      replace Lb := Lb.adv (Adv.nil ax)
      replace Rb := Rb.adv (Adv.nil ax)
      replace A0 := A0.trans (Adv.nil ax)
      replace hX := Tp.adv hX (Adv.nil ax)
      replace hD := Adv.same ax _ _ hD
      replace hD2 := Adv.same ax _ _ hD2
      clear nx ax
      walk_at "rd"
      refine ⟨by show 1 ≤ sizeLine; decide, fun pm nx => ?_⟩
      have ax : Adv [] H7 (upd H7 pm (.lst [.int (main : Nat)])) := Adv.new nx
      have hm : (upd H7 pm (.lst [.int (main : Nat)])) pm = some (.lst [.int (main : Nat)]) := upd_same
      replace G := G.same ax
      replace T1 := Tp.adv T1 (Adv.nil ax)
      replace T2 := Tp.adv T2 (Adv.nil ax)
      replace La := La.adv (Adv.nil ax)
      replace Ra := Ra.adv (Adv.nil ax)
      replace Lb := Lb.adv (Adv.nil ax)
      replace Rb := Rb.adv (Adv.nil ax)
      replace A0 := A0.trans (Adv.nil ax)
      replace hX := Tp.adv hX (Adv.nil ax)
      replace hD := Adv.same ax _ _ hD
      replace hD2 := Adv.same ax _ _ hD2
      replace hC := Adv.same ax _ _ hC
      generalize (upd H7 pm (.lst [.int (main : Nat)])) = H8 at ax hm G T1 T2 La Ra Lb Rb A0 hX hD hD2 hC
      clear ax nx
      walk_at "rd"
      refine cat_at hC (ys := [main]) hm (by have := lesF_le ri1 j; have := lesF_le ri2 k; (try simp only [List.length_append, List.length_singleton]); omega) fun C2 H9 nx hC2 ax => ?_
      replace G := G.same ax
      replace T1 := Tp.adv T1 (Adv.nil ax)
      replace T2 := Tp.adv T2 (Adv.nil ax)
      replace La := La.adv (Adv.nil ax)
      replace Ra := Ra.adv (Adv.nil ax)
      replace Lb := Lb.adv (Adv.nil ax)
      replace Rb := Rb.adv (Adv.nil ax)
      replace A0 := A0.trans (Adv.nil ax)
      replace hX := Tp.adv hX (Adv.nil ax)
      replace hD := Adv.same ax _ _ hD
      replace hD2 := Adv.same ax _ _ hD2
      replace hC := Adv.same ax _ _ hC
      replace hm := Adv.same ax _ _ hm
      clear nx ax
      walk_at "rd"
      refine ⟨by show 2 ≤ sizeLine; decide, fun pp nx => ?_⟩
      have ax : Adv [] H9 (upd H9 pp (.tup [.int (at_ : Nat), .int (by_ : Nat)])) := Adv.new nx
      have hpp : (upd H9 pp (.tup [.int (at_ : Nat), .int (by_ : Nat)])) pp = some (.tup [.int (at_ : Nat), .int (by_ : Nat)]) := upd_same
      have hppM : pp ∉ M := not_mem_new G.al nx
      replace G := G.same ax
      replace T1 := Tp.adv T1 (Adv.nil ax)
      replace T2 := Tp.adv T2 (Adv.nil ax)
      replace La := La.adv (Adv.nil ax)
      replace Ra := Ra.adv (Adv.nil ax)
      replace Lb := Lb.adv (Adv.nil ax)
      replace Rb := Rb.adv (Adv.nil ax)
      replace A0 := A0.trans (Adv.nil ax)
      replace hX := Tp.adv hX (Adv.nil ax)
      replace hD := Adv.same ax _ _ hD
      replace hD2 := Adv.same ax _ _ hD2
      replace hC := Adv.same ax _ _ hC
      replace hm := Adv.same ax _ _ hm
      replace hC2 := Adv.same ax _ _ hC2
      generalize (upd H9 pp (.tup [.int (at_ : Nat), .int (by_ : Nat)])) = H10 at ax hpp G T1 T2 La Ra Lb Rb A0 hX hD hD2 hC hm hC2
      clear ax nx
      walk_at "rd"
      refine G.linE (S' := S + S + 1) (by omega) (.inr (hX.less (by simp))) (.inl hC2) (Tp.of hpp hppM) (fun y hy => by
        rcases List.mem_append.mp hy with hy | hy
        · exact La.b y hy
        · exact Lb.b y hy) (fun y hy => by
        rcases List.mem_append.mp hy with hy | hy
        · exact (List.mem_append.mp hy).elim (fun hy => Ra.b y (lesF_mem hy)) (fun hy => Rb.b y (lesF_mem hy))
        · rw [List.mem_singleton.mp hy]; omega) (by  simp only [List.length_append, List.length_singleton]; omega) (by have := lesF_le ri1 j; have := lesF_le ri2 k; simp only [List.length_append, List.length_singleton]; omega) (by omega) (by omega) fun v HF GF aF => ?_
      exact q v _ HF (by omega) (by omega) GF (A0.trans (aF.more (by simp)))
    walk_at "rd"
    refine iteB (fun e3 => ?_) (fun e3 => ?_)
    · have sl := La.sq (K := K)
      walk_at "rd"
      clear sl
      intro Y nx
      have ax : Adv [] H1 (upd H1 Y (.lst (nVl le1))) := Adv.new nx
      have hY : (upd H1 Y (.lst (nVl le1))) Y = some (.lst (nVl le1)) := upd_same
      replace G := G.same ax
      replace T1 := Tp.adv T1 (Adv.nil ax)
      replace T2 := Tp.adv T2 (Adv.nil ax)
      replace La := La.adv (Adv.nil ax)
      replace Ra := Ra.adv (Adv.nil ax)
      replace Lb := Lb.adv (Adv.nil ax)
      replace Rb := Rb.adv (Adv.nil ax)
      replace A0 := A0.trans (Adv.nil ax)
      generalize (upd H1 Y (.lst (nVl le1))) = H2 at ax hY G T1 T2 La Ra Lb Rb A0
      clear ax nx
      walk_at "rd"
      refine les_at Lb.rws (by omega) fun D H3 nx hD ax => ?_
      replace G := G.same ax
      replace T1 := Tp.adv T1 (Adv.nil ax)
      replace T2 := Tp.adv T2 (Adv.nil ax)
      replace La := La.adv (Adv.nil ax)
      replace Ra := Ra.adv (Adv.nil ax)
      replace Lb := Lb.adv (Adv.nil ax)
      replace Rb := Rb.adv (Adv.nil ax)
      replace A0 := A0.trans (Adv.nil ax)
      replace hY := Adv.same ax _ _ hY
      clear nx ax
      walk_at "rd"
      refine cat_at hY hD (by have := lesF_le le2 j; (try simp only [List.length_append, List.length_singleton]); omega) fun C H4 nx hC ax => ?_
      replace G := G.same ax
      replace T1 := Tp.adv T1 (Adv.nil ax)
      replace T2 := Tp.adv T2 (Adv.nil ax)
      replace La := La.adv (Adv.nil ax)
      replace Ra := Ra.adv (Adv.nil ax)
      replace Lb := Lb.adv (Adv.nil ax)
      replace Rb := Rb.adv (Adv.nil ax)
      replace A0 := A0.trans (Adv.nil ax)
      replace hY := Adv.same ax _ _ hY
      replace hD := Adv.same ax _ _ hD
      clear nx ax
      walk_at "rd"
      refine les_at Ra.rws (by omega) fun D2 H5 nx hD2 ax => ?_
      replace G := G.same ax
      replace T1 := Tp.adv T1 (Adv.nil ax)
      replace T2 := Tp.adv T2 (Adv.nil ax)
      replace La := La.adv (Adv.nil ax)
      replace Ra := Ra.adv (Adv.nil ax)
      replace Lb := Lb.adv (Adv.nil ax)
      replace Rb := Rb.adv (Adv.nil ax)
      replace A0 := A0.trans (Adv.nil ax)
      replace hY := Adv.same ax _ _ hY
      replace hD := Adv.same ax _ _ hD
      replace hC := Adv.same ax _ _ hC
      clear nx ax
      have sr := Rb.sq (K := K)
      walk_at "rd"
      clear sr
      intro Y2 nx
      have ax : Adv [] H5 (upd H5 Y2 (.lst (nVl ri2))) := Adv.new nx
      have hY2 : (upd H5 Y2 (.lst (nVl ri2))) Y2 = some (.lst (nVl ri2)) := upd_same
      replace G := G.same ax
      replace T1 := Tp.adv T1 (Adv.nil ax)
      replace T2 := Tp.adv T2 (Adv.nil ax)
      replace La := La.adv (Adv.nil ax)
      replace Ra := Ra.adv (Adv.nil ax)
      replace Lb := Lb.adv (Adv.nil ax)
      replace Rb := Rb.adv (Adv.nil ax)
      replace A0 := A0.trans (Adv.nil ax)
      replace hY := Adv.same ax _ _ hY
      replace hD := Adv.same ax _ _ hD
      replace hC := Adv.same ax _ _ hC
      replace hD2 := Adv.same ax _ _ hD2
      generalize (upd H5 Y2 (.lst (nVl ri2))) = H6 at ax hY2 G T1 T2 La Ra Lb Rb A0 hY hD hC hD2
      clear ax nx
      walk_at "rd"
      refine cat_at hD2 hY2 (by have := lesF_le ri1 j; (try simp only [List.length_append, List.length_singleton]); omega) fun C2 H7 nx hC2 ax => ?_
      replace G := G.same ax
      replace T1 := Tp.adv T1 (Adv.nil ax)
      replace T2 := Tp.adv T2 (Adv.nil ax)
      replace La := La.adv (Adv.nil ax)
      replace Ra := Ra.adv (Adv.nil ax)
      replace Lb := Lb.adv (Adv.nil ax)
      replace Rb := Rb.adv (Adv.nil ax)
      replace A0 := A0.trans (Adv.nil ax)
      replace hY := Adv.same ax _ _ hY
      replace hD := Adv.same ax _ _ hD
      replace hC := Adv.same ax _ _ hC
      replace hD2 := Adv.same ax _ _ hD2
      replace hY2 := Adv.same ax _ _ hY2
      clear nx ax
      walk_at "rd"
      refine ⟨by show 2 ≤ sizeLine; decide, fun pp nx => ?_⟩
      have ax : Adv [] H7 (upd H7 pp (.tup [.int (at_ : Nat), .int (by_ : Nat)])) := Adv.new nx
      have hpp : (upd H7 pp (.tup [.int (at_ : Nat), .int (by_ : Nat)])) pp = some (.tup [.int (at_ : Nat), .int (by_ : Nat)]) := upd_same
      have hppM : pp ∉ M := not_mem_new G.al nx
      replace G := G.same ax
      replace T1 := Tp.adv T1 (Adv.nil ax)
      replace T2 := Tp.adv T2 (Adv.nil ax)
      replace La := La.adv (Adv.nil ax)
      replace Ra := Ra.adv (Adv.nil ax)
      replace Lb := Lb.adv (Adv.nil ax)
      replace Rb := Rb.adv (Adv.nil ax)
      replace A0 := A0.trans (Adv.nil ax)
      replace hY := Adv.same ax _ _ hY
      replace hD := Adv.same ax _ _ hD
      replace hC := Adv.same ax _ _ hC
      replace hD2 := Adv.same ax _ _ hD2
      replace hY2 := Adv.same ax _ _ hY2
      replace hC2 := Adv.same ax _ _ hC2
      generalize (upd H7 pp (.tup [.int (at_ : Nat), .int (by_ : Nat)])) = H8 at ax hpp G T1 T2 La Ra Lb Rb A0 hY hD hC hD2 hY2 hC2
      clear ax nx
      walk_at "rd"
      refine G.linE (S' := S + S + 1) (by omega) (.inl hC) (.inl hC2) (Tp.of hpp hppM) (fun y hy => by
        rcases List.mem_append.mp hy with hy | hy
        · exact La.b y hy
        · exact Lb.b y (lesF_mem hy)) (fun y hy => by
        rcases List.mem_append.mp hy with hy | hy
        · exact Ra.b y (lesF_mem hy)
        · exact Rb.b y hy) (by have := lesF_le le2 j; simp only [List.length_append, List.length_singleton]; omega) (by have := lesF_le ri1 j; simp only [List.length_append, List.length_singleton]; omega) (by omega) (by omega) fun v HF GF aF => ?_
      exact q v _ HF (by omega) (by omega) GF (A0.trans (aF.more (by simp)))
    · walk_at "rd"
      refine ⟨⟨M, st, bk, b0, b1, _, _, _, le2, letters, rfl, G.D, Lb.h, Lb.b, by have := Lb.z; omega, l0, l1, by omega, fun k ns2 H2 d => ?_⟩⟩
      have e1 := d.le
      have g1 := d.ge
      have r1 := d.lt
      replace T1 := Tp.adv T1 (d.a.more G.m3)
      replace T2 := Tp.adv T2 (d.a.more G.m3)
      replace La := (La.adv (d.a.more G.m3)).mono g1 (Nat.le_refl _)
      replace Ra := (Ra.adv (d.a.more G.m3)).mono g1 (Nat.le_refl _)
      replace Lb := (Lb.adv (d.a.more G.m3)).mono g1 (Nat.le_refl _)
      replace Rb := (Rb.adv (d.a.more G.m3)).mono g1 (Nat.le_refl _)
      replace A0 := A0.trans (Gw.a4 d.a)
      replace G := G.draw d
      clear d
      walk_at "rd"
      refine ⟨by show 3 ≤ sizeLine; decide, fun px nx => ?_⟩
      walk_at "rd"
      refine row_dn (c := 1) (.bin .imp j k) G.D nx (by simp only [Nd.ok, Bool.and_eq_true, decide_eq_true_eq]; omega) (by omega) (List.prefix_refl _) (by omega) (a_s (Adv.refl _ _)) fun main ns3 H3 d => ?_
      have e2 := d.le
      have g2 := d.ge
      have r2 := d.lt
      replace T1 := Tp.adv T1 (d.a.more G.m3)
      replace T2 := Tp.adv T2 (d.a.more G.m3)
      replace La := (La.adv (d.a.more G.m3)).mono g2 (Nat.le_refl _)
      replace Ra := (Ra.adv (d.a.more G.m3)).mono g2 (Nat.le_refl _)
      replace Lb := (Lb.adv (d.a.more G.m3)).mono g2 (Nat.le_refl _)
      replace Rb := (Rb.adv (d.a.more G.m3)).mono g2 (Nat.le_refl _)
      replace A0 := A0.trans (Gw.a4 d.a)
      replace G := G.draw d
      clear d
      have sl := La.sq (K := K)
      walk_at "rd"
      clear sl
      intro Y nx
      have ax : Adv [] H3 (upd H3 Y (.lst (nVl le1))) := Adv.new nx
      have hY : (upd H3 Y (.lst (nVl le1))) Y = some (.lst (nVl le1)) := upd_same
      replace G := G.same ax
      replace T1 := Tp.adv T1 (Adv.nil ax)
      replace T2 := Tp.adv T2 (Adv.nil ax)
      replace La := La.adv (Adv.nil ax)
      replace Ra := Ra.adv (Adv.nil ax)
      replace Lb := Lb.adv (Adv.nil ax)
      replace Rb := Rb.adv (Adv.nil ax)
      replace A0 := A0.trans (Adv.nil ax)
      generalize (upd H3 Y (.lst (nVl le1))) = H4 at ax hY G T1 T2 La Ra Lb Rb A0
      clear ax nx
      walk_at "rd"
      refine les_at Lb.rws (by omega) fun D H5 nx hD ax => ?_
      replace G := G.same ax
      replace T1 := Tp.adv T1 (Adv.nil ax)
      replace T2 := Tp.adv T2 (Adv.nil ax)
      replace La := La.adv (Adv.nil ax)
      replace Ra := Ra.adv (Adv.nil ax)
      replace Lb := Lb.adv (Adv.nil ax)
      replace Rb := Rb.adv (Adv.nil ax)
      replace A0 := A0.trans (Adv.nil ax)
      replace hY := Adv.same ax _ _ hY
      clear nx ax
      walk_at "rd"
      refine cat_at hY hD (by have := lesF_le le2 k; (try simp only [List.length_append, List.length_singleton]); omega) fun C H6 nx hC ax => ?_
      replace G := G.same ax
      replace T1 := Tp.adv T1 (Adv.nil ax)
      replace T2 := Tp.adv T2 (Adv.nil ax)
      replace La := La.adv (Adv.nil ax)
      replace Ra := Ra.adv (Adv.nil ax)
      replace Lb := Lb.adv (Adv.nil ax)
      replace Rb := Rb.adv (Adv.nil ax)
      replace A0 := A0.trans (Adv.nil ax)
      replace hY := Adv.same ax _ _ hY
      replace hD := Adv.same ax _ _ hD
      clear nx ax
      walk_at "rd"
      refine ⟨by show 1 ≤ sizeLine; decide, fun pm nx => ?_⟩
      have ax : Adv [] H6 (upd H6 pm (.lst [.int (main : Nat)])) := Adv.new nx
      have hm : (upd H6 pm (.lst [.int (main : Nat)])) pm = some (.lst [.int (main : Nat)]) := upd_same
      replace G := G.same ax
      replace T1 := Tp.adv T1 (Adv.nil ax)
      replace T2 := Tp.adv T2 (Adv.nil ax)
      replace La := La.adv (Adv.nil ax)
      replace Ra := Ra.adv (Adv.nil ax)
      replace Lb := Lb.adv (Adv.nil ax)
      replace Rb := Rb.adv (Adv.nil ax)
      replace A0 := A0.trans (Adv.nil ax)
      replace hY := Adv.same ax _ _ hY
      replace hD := Adv.same ax _ _ hD
      replace hC := Adv.same ax _ _ hC
      generalize (upd H6 pm (.lst [.int (main : Nat)])) = H7 at ax hm G T1 T2 La Ra Lb Rb A0 hY hD hC
      clear ax nx
      walk_at "rd"
      refine cat_at hC (ys := [main]) hm (by have := lesF_le le2 k; (try simp only [List.length_append, List.length_singleton]); omega) fun C3 H8 nx hC3 ax => ?_
      replace G := G.same ax
      replace T1 := Tp.adv T1 (Adv.nil ax)
      replace T2 := Tp.adv T2 (Adv.nil ax)
      replace La := La.adv (Adv.nil ax)
      replace Ra := Ra.adv (Adv.nil ax)
      replace Lb := Lb.adv (Adv.nil ax)
      replace Rb := Rb.adv (Adv.nil ax)
      replace A0 := A0.trans (Adv.nil ax)
      replace hY := Adv.same ax _ _ hY
      replace hD := Adv.same ax _ _ hD
      replace hC := Adv.same ax _ _ hC
      replace hm := Adv.same ax _ _ hm
      clear nx ax
      walk_at "rd"
      refine les_at Ra.rws (by omega) fun D2 H9 nx hD2 ax => ?_
      replace G := G.same ax
      replace T1 := Tp.adv T1 (Adv.nil ax)
      replace T2 := Tp.adv T2 (Adv.nil ax)
      replace La := La.adv (Adv.nil ax)
      replace Ra := Ra.adv (Adv.nil ax)
      replace Lb := Lb.adv (Adv.nil ax)
      replace Rb := Rb.adv (Adv.nil ax)
      replace A0 := A0.trans (Adv.nil ax)
      replace hY := Adv.same ax _ _ hY
      replace hD := Adv.same ax _ _ hD
      replace hC := Adv.same ax _ _ hC
      replace hm := Adv.same ax _ _ hm
      replace hC3 := Adv.same ax _ _ hC3
      clear nx ax
      have sr := Rb.sq (K := K)
      walk_at "rd"
      clear sr
      intro Y2 nx
      have ax : Adv [] H9 (upd H9 Y2 (.lst (nVl ri2))) := Adv.new nx
      have hY2 : (upd H9 Y2 (.lst (nVl ri2))) Y2 = some (.lst (nVl ri2)) := upd_same
      replace G := G.same ax
      replace T1 := Tp.adv T1 (Adv.nil ax)
      replace T2 := Tp.adv T2 (Adv.nil ax)
      replace La := La.adv (Adv.nil ax)
      replace Ra := Ra.adv (Adv.nil ax)
      replace Lb := Lb.adv (Adv.nil ax)
      replace Rb := Rb.adv (Adv.nil ax)
      replace A0 := A0.trans (Adv.nil ax)
      replace hY := Adv.same ax _ _ hY
      replace hD := Adv.same ax _ _ hD
      replace hC := Adv.same ax _ _ hC
      replace hm := Adv.same ax _ _ hm
      replace hC3 := Adv.same ax _ _ hC3
      replace hD2 := Adv.same ax _ _ hD2
      generalize (upd H9 Y2 (.lst (nVl ri2))) = H10 at ax hY2 G T1 T2 La Ra Lb Rb A0 hY hD hC hm hC3 hD2
      clear ax nx
      walk_at "rd"
      refine cat_at hD2 hY2 (by have := lesF_le ri1 j; (try simp only [List.length_append, List.length_singleton]); omega) fun C2 H11 nx hC2 ax => ?_
      replace G := G.same ax
      replace T1 := Tp.adv T1 (Adv.nil ax)
      replace T2 := Tp.adv T2 (Adv.nil ax)
      replace La := La.adv (Adv.nil ax)
      replace Ra := Ra.adv (Adv.nil ax)
      replace Lb := Lb.adv (Adv.nil ax)
      replace Rb := Rb.adv (Adv.nil ax)
      replace A0 := A0.trans (Adv.nil ax)
      replace hY := Adv.same ax _ _ hY
      replace hD := Adv.same ax _ _ hD
      replace hC := Adv.same ax _ _ hC
      replace hm := Adv.same ax _ _ hm
      replace hC3 := Adv.same ax _ _ hC3
      replace hD2 := Adv.same ax _ _ hD2
      replace hY2 := Adv.same ax _ _ hY2
      clear nx ax
      walk_at "rd"
      refine ⟨by show 2 ≤ sizeLine; decide, fun pp nx => ?_⟩
      have ax : Adv [] H11 (upd H11 pp (.tup [.int (at_ : Nat), .int (by_ : Nat)])) := Adv.new nx
      have hpp : (upd H11 pp (.tup [.int (at_ : Nat), .int (by_ : Nat)])) pp = some (.tup [.int (at_ : Nat), .int (by_ : Nat)]) := upd_same
      have hppM : pp ∉ M := not_mem_new G.al nx
      replace G := G.same ax
      replace T1 := Tp.adv T1 (Adv.nil ax)
      replace T2 := Tp.adv T2 (Adv.nil ax)
      replace La := La.adv (Adv.nil ax)
      replace Ra := Ra.adv (Adv.nil ax)
      replace Lb := Lb.adv (Adv.nil ax)
      replace Rb := Rb.adv (Adv.nil ax)
      replace A0 := A0.trans (Adv.nil ax)
      replace hY := Adv.same ax _ _ hY
      replace hD := Adv.same ax _ _ hD
      replace hC := Adv.same ax _ _ hC
      replace hm := Adv.same ax _ _ hm
      replace hC3 := Adv.same ax _ _ hC3
      replace hD2 := Adv.same ax _ _ hD2
      replace hY2 := Adv.same ax _ _ hY2
      replace hC2 := Adv.same ax _ _ hC2
      generalize (upd H11 pp (.tup [.int (at_ : Nat), .int (by_ : Nat)])) = H12 at ax hpp G T1 T2 La Ra Lb Rb A0 hY hD hC hm hC3 hD2 hY2 hC2
      clear ax nx
      walk_at "rd"
      refine G.linE (S' := S + S + 1) (by omega) (.inl hC3) (.inl hC2) (Tp.of hpp hppM) (fun y hy => by
        rcases List.mem_append.mp hy with hy | hy
        · exact (List.mem_append.mp hy).elim (fun hy => La.b y hy) (fun hy => Lb.b y (lesF_mem hy))
        · rw [List.mem_singleton.mp hy]; omega) (fun y hy => by
        rcases List.mem_append.mp hy with hy | hy
        · exact Ra.b y (lesF_mem hy)
        · exact Rb.b y hy) (by have := lesF_le le2 k; simp only [List.length_append, List.length_singleton]; omega) (by have := lesF_le ri1 j; simp only [List.length_append, List.length_singleton]; omega) (by omega) (by omega) fun v HF GF aF => ?_
      exact q v _ HF (by omega) (by omega) GF (A0.trans (aF.more (by simp)))
end

set_option Elab.async false
set_option linter.all false
set_option maxRecDepth 100000
set_option maxHeartbeats 4000000
open PySem PySem.Spec PyProof.Rows L2 LL
open C8 (pss_cut)
section
variable [KW]
variable {P : Program} {w : World} {K : PySem.W.Frag} {mg : Str → Option Value} {base : Heap}
/-! ### _law_grow -/
theorem op_notInK {X : Cx} (K : PySem.W.Frag) (hK : X.K = K) : OpR X (compareOp .NotIn) (rIn K true) := by
  subst hK
  exact op_notIn_seq
theorem nVl_flat (l : List Nat) : (nVl l).all flatV = true := by
  unfold nVl
  rw [List.all_map]
  exact List.all_eq_true.mpr fun _ _ => rfl
theorem catV_at {H : Hp} {d e : Addr} {xs ys : List V} {Q : VK} (hd : H d = some (.lst xs)) (he : H e = some (.lst ys)) (hz : xs.length + ys.length ≤ 9000) (q : ∀ p H', H p = none → H' p = some (.lst (xs ++ ys)) → Adv [] H H' → Q (.ref p) H') : rCat (.ref d) (.ref e) H Q :=
  ⟨d, e, _, _, rfl, rfl, hd, he, by rw [sizeLine_eq]; omega, fun p hp => q p _ hp upd_same (Adv.new hp)⟩
def rules0 : List Str := ["and left", "or right", "if right", "if right", "or left", "and right", "if left", "if left"]
def rulesB (b : Bool) : List Str := if b then ["box", "box", "box", "given", "box left"] else []
theorem rules_box {b : Bool} (h : ("box left" : Str) ∈ (rules0 ++ rulesB b) ++ (["cut"] : List Str)) : b = true := by
  cases b with
  | true => rfl
  | false => exact absurd h (by decide)
/-- how far it has grown -/
def pot (n S : Nat) : Nat := 5 * n + 7 * S
/-- the theory's list -/
structure Thy (M : List Addr) (H : Hp) (s b0 b1 ln th : Addr) (n : Nat) (ths : List Nat) : Prop where
  h : H th = some (.lst (nVl ths))
  m : th ∈ M
  n0 : th ≠ s
  n1 : th ≠ b0
  n2 : th ≠ b1
  n3 : th ≠ ln
  b : ∀ y ∈ ths, y < n
theorem Thy.adv {M : List Addr} {H H' : Hp} {s b0 b1 ln th : Addr} {n n' : Nat} {ths : List Nat} (x : Thy M H s b0 b1 ln th n ths) (a : Adv [s, b0, b1, ln] H H') (h : n ≤ n') : Thy M H' s b0 b1 ln th n' ths :=
  ⟨a _ _ (by simp [x.n0, x.n1, x.n2, x.n3]) x.h, x.m, x.n0, x.n1, x.n2, x.n3, fun y hy => Nat.lt_of_lt_of_le (x.b y hy) h⟩
theorem Gw.cap {M : List Addr} {H : Hp} {s bk b0 b1 ln : Addr} {bx : Bool} {ns : List Nd} {vs : List V} {S : Nat} (x : Gw M H s bk b0 b1 ln bx ns vs S) : Gw M H s bk b0 b1 ln bx ns vs (min S ns.length) :=
  ⟨x.D, x.ml, x.n0, x.n1, x.n2, x.hl, fun v hv => by
    obtain ⟨l, r, g⟩ := x.ok v hv
    have h1 := nodup_lt g.nl g.hl
    have h2 := nodup_lt g.nr g.hr
    exact ⟨l, r, g.ex, g.hl, g.hr, g.nl, g.nr, Nat.le_min.mpr ⟨g.ll, h1⟩, Nat.le_min.mpr ⟨g.lr, h2⟩⟩⟩
structure GroP (vs : List V) (H : Hp) (Q : VK) : Prop where
  ex : ∃ (M : List Addr) (s bk b0 b1 ln th : Addr) (x : Str) (ns : List Nd) (us : List V) (ths : List Nat) (S : Nat), vs = [.ref s, .str x, .ref bk, .ref th, .ref ln, .int 4, .bl true, .bl false] ∧ Gw M H s bk b0 b1 ln (logicB x) ns us S ∧ Thy M H s b0 b1 ln th ns.length ths ∧ 0 < us.length ∧ 2 ≤ S ∧ S ≤ ns.length + 2 ∧ ns.length ≤ 80000 ∧ us.length ≤ 400000 ∧ S ≤ 1900 ∧ ths.length ≤ 1000 ∧
    ∀ v ns' us' ths' S' H', ns.length ≤ ns'.length → us.length ≤ us'.length → us'.length ≤ us.length + S + 2 → ths'.length ≤ ths.length + 1 → 2 ≤ S' → S' ≤ ns'.length + 2 → 12 * pot ns'.length S' ≤ 17 * pot ns.length S + 720 → Gw M H' s bk b0 b1 ln (logicB x) ns' us' S' → Thy M H' s b0 b1 ln th ns'.length ths' → Adv [s, b0, b1, ln, th] H H' → Q v H'
def spGro : Sp := fun vs H Q _ => GroP vs H Q
theorem ok_law_grow (A : All K mg w) : FnOk P w K mg base CX0 8 A.law_grow.f A.law_grow.fd ["stream", "logic", "book", "theory", "lines", "letters", "cuts", "one"] spGro := by
  refine A.law_grow.F.ok sc_law_grow (fun vs H Q E h => ?_) (fun cdv Ar outer s H vs Q E hr h => ?_)
  · obtain ⟨M, s, bk, b0, b1, ln, th, x, ns, us, ths, S, rfl, _⟩ := h.ex
    rfl
  · obtain ⟨M, st, bk, b0, b1, ln, th, x, ns, us, ths, S, rfl, G, TH, u0, S2, Sn, hz, hu, hS, htz, q⟩ := h.ex
    refine ⟨_, (pss_cons (ps_set (i := 8) sc_law_grow.nd rfl (Or.inl rfl) (pe_op op_sub (pe_op op_sub (pe_callB call_len_seq (by rfl) A.T.len PySem.boot_len (pa_cons (pv 4) pa_nil)) pe_int) (pe_call (ok_law_next A) (hr.mono (by omega)) rfl A.law_next.m A.law_next.F.kp A.law_next.b .nil pass0 (pa_cons (pv 0) (pa_cons (pe_callB (call_min2 rfl) (by rfl) A.T.min (by decide +kernel) (pa_cons (pe_callB call_len_seq (by rfl) A.T.len PySem.boot_len (pa_cons (pv 4) pa_nil)) (pa_cons pe_int pa_nil))) pa_nil)))))
  (pss_cons (ps_set (i := 9) sc_law_grow.nd rfl (Or.inl rfl) (pe_call (ok_law_next A) (hr.mono (by omega)) rfl A.law_next.m A.law_next.F.kp A.law_next.b .nil pass0 (pa_cons (pv 0) (pa_cons (pe_callB call_len_seq (by rfl) A.T.len PySem.boot_len (pa_cons (pv 4) pa_nil)) pa_nil))))
  (pss_cons (ps_set (i := 10) sc_law_grow.nd rfl (Or.inl rfl) (pe_lst (pa_cons pe_str (pa_cons pe_str (pa_cons pe_str (pa_cons pe_str (pa_cons pe_str (pa_cons pe_str (pa_cons pe_str (pa_cons pe_str pa_nil))))))))))
  (pss_cons (ps_set (i := 10) sc_law_grow.nd rfl (Or.inl rfl) (pe_cut (pe_op op_cat (pe_op op_cat (pv 10) (pe_ifExp (pt_val (pe_call (ok_law_is_boxed A) (hr.mono (by omega)) rfl A.law_is_boxed.m A.law_is_boxed.F.kp A.law_is_boxed.b .nil pass0 (pa_cons (pv 1) pa_nil))) (pe_lst (pa_cons pe_str (pa_cons pe_str (pa_cons pe_str (pa_cons pe_str (pa_cons pe_str pa_nil)))))) (pe_lst pa_nil))) (pe_ifExp (pt_val (pv 6)) (pe_lst (pa_cons pe_str pa_nil)) (pe_lst pa_nil)))))
  (pss_cons (ps_set (i := 11) sc_law_grow.nd rfl (Or.inl rfl) (pe_call (ok_law_pick A) (hr.mono (by omega)) rfl A.law_pick.m A.law_pick.F.kp A.law_pick.b .nil pass0 (pa_cons (pv 0) (pa_cons (pv 10) pa_nil))))
  (pss_cons (ps_if (pt_cmpR op_eq (pv 11) pe_str (nomark _))
    (pss_cons (ps_set (i := 12) sc_law_grow.nd rfl (Or.inl rfl) (pe_ix ix_tup (pe_ix (ix_listK K rfl) (pv 4) (pv 8) (fun _ _ => rfl)) pe_int (fun _ _ => rfl)))
  (pss_cons (ps_if (pt_cmpR op_eq (pe_callB call_len_seq (by rfl) A.T.len PySem.boot_len (pa_cons (pv 12) pa_nil)) pe_int (nomark _))
    (pss_one (ps_ret (pe_call (ok_law_base A) (hr.mono (by omega)) rfl A.law_base.m A.law_base.F.kp A.law_base.b .nil pass0 (pa_cons (pv 0) (pa_cons (pv 1) (pa_cons (pv 2) (pa_cons (pv 4) (pa_cons (pv 5) (pa_cons (pv 7) pa_nil)))))))))
    pss_nil)
  (pss_cons (ps_set (i := 13) sc_law_grow.nd rfl (Or.inl rfl) (pe_call (ok_law_pick A) (hr.mono (by omega)) rfl A.law_pick.m A.law_pick.F.kp A.law_pick.b .nil pass0 (pa_cons (pv 0) (pa_cons (pv 12) pa_nil))))
  (pss_cut (ps_if (pt_cmpR (op_notInK K rfl) (pv 13) (pv 3) rfl)
    (pss_one (ps_expr (pe_bm PySem.F.plainAttrs_list PySem.F.slot_list_append PySem.F.type_list_append mt_append (pv 3) (pa_cons (pv 13) pa_nil))))
    pss_nil)
  (pss_one (ps_ret (pe_call (ok_law_line A) (hr.mono (by omega)) rfl A.law_line.m A.law_line.F.kp A.law_line.b .nil pass0 (pa_cons (pv 4) (pa_cons (pe_call (ok_law_less A) (hr.mono (by omega)) rfl A.law_less.m A.law_less.F.kp A.law_less.b .nil pass0 (pa_cons (pv 12) (pa_cons (pv 13) pa_nil))) (pa_cons (pe_ix ix_tup (pe_ix (ix_listK K rfl) (pv 4) (pv 8) (fun _ _ => rfl)) pe_int (fun _ _ => rfl)) (pa_cons (pv 11) (pa_cons (pe_tup (pa_cons (pv 8) pa_nil)) (pa_cons (pv 13) pa_nil)))))))))))))
    pss_nil)
  (pss_cons (ps_if (pt_cmpR (op_inK K rfl) (pv 11) (pe_tup (pa_cons pe_str (pa_cons pe_str (pa_cons pe_str (pa_cons pe_str pa_nil))))) rfl)
    (pss_cut (ps_if (PW.pt (pw_and (pt_cmpR op_eq (pv 11) pe_str (nomark _)) (pw_and (pt_val (pv 7)) (pw_and1 (pt_cmpR op_gt (pe_callB call_len_seq (by rfl) A.T.len PySem.boot_len (pa_cons (pe_callB (cr_sortS rfl) (by rfl) A.T.sorted (by decide +kernel) (pa_cons (pe_callTy (cr_setL rfl) (by rfl) A.T.set (by decide +kernel) (pa_cons (pe_op op_catA (pe_ix ix_tup (pe_ix (ix_listK K rfl) (pv 4) (pv 8) (fun _ _ => rfl)) pe_int (fun _ _ => rfl)) (pe_ix ix_tup (pe_ix (ix_listK K rfl) (pv 4) (pv 9) (fun _ _ => rfl)) pe_int (fun _ _ => rfl))) pa_nil)) pa_nil)) pa_nil)) pe_int (nomark _))))))
    (pss_one (ps_set (i := 9) sc_law_grow.nd rfl (Or.inl rfl) (pv 8)))
    pss_nil)
  (pss_one (ps_ret (pe_call (ok_law_grow_two A) (hr.mono (by omega)) rfl A.law_grow_two.m A.law_grow_two.F.kp A.law_grow_two.b .nil pass0 (pa_cons (pv 0) (pa_cons (pv 2) (pa_cons (pv 4) (pa_cons (pv 5) (pa_cons (pv 11) (pa_cons (pv 8) (pa_cons (pv 9) pa_nil)))))))))))
    pss_nil)
  (pss_cut (ps_if (PW.pt (pw_and (pt_cmpR op_eq (pv 11) pe_str (nomark _)) (pw_and (pt_val (pv 7)) (pw_and1 (pt_cmpR op_gt (pe_callB call_len_seq (by rfl) A.T.len PySem.boot_len (pa_cons (pe_ix ix_tup (pe_ix (ix_listK K rfl) (pv 4) (pv 8) (fun _ _ => rfl)) pe_int (fun _ _ => rfl)) pa_nil)) pe_int (nomark _))))))
    (pss_one (ps_ret (pe_call (ok_law_base A) (hr.mono (by omega)) rfl A.law_base.m A.law_base.F.kp A.law_base.b .nil pass0 (pa_cons (pv 0) (pa_cons (pv 1) (pa_cons (pv 2) (pa_cons (pv 4) (pa_cons (pv 5) (pa_cons (pv 7) pa_nil)))))))))
    pss_nil)
  (pss_cons (ps_set (i := 14) sc_law_grow.nd rfl (Or.inl rfl) (pe_call (ok_law_grow_one A) (hr.mono (by omega)) rfl A.law_grow_one.m A.law_grow_one.F.kp A.law_grow_one.b .nil pass0 (pa_cons (pv 0) (pa_cons (pv 1) (pa_cons (pv 2) (pa_cons (pv 4) (pa_cons (pv 5) (pa_cons (pv 11) (pa_cons (pv 8) pa_nil)))))))))
  (pss_one (ps_ret (pe_ifExp (pt_cmpR op_eq (pv 14) (pe_un un_neg pe_int) (nomark _)) (pe_call (ok_law_base A) (hr.mono (by omega)) rfl A.law_base.m A.law_base.F.kp A.law_base.b .nil pass0 (pa_cons (pv 0) (pa_cons (pv 1) (pa_cons (pv 2) (pa_cons (pv 4) (pa_cons (pv 5) (pa_cons (pv 7) pa_nil))))))) (pv 14))))))))))))), ?_⟩
    have hln := G.hl
    walk_at "rd"
    refine ⟨st, _, M, rfl, G.D.str, by split <;> omega, by split <;> omega, fun d H1 d0 d1 hs a => ?_⟩
    have d2 : d < us.length := by
      split at d1 <;> omega
    obtain ⟨at_, ea⟩ : ∃ at_ : Nat, (us.length : Int) - 1 - d = (at_ : Nat) := ⟨((us.length : Int) - 1 - d).toNat, by omega⟩
    have hat : at_ < us.length := by omega
    have G1 := G.next a hs
    have a01 := a
    clear G hs a hln
    have hln := G1.hl
    walk_at "rd"
    rw [ea]
    clear ea d0 d1 d2
    refine ⟨st, (us.length : Nat), M, rfl, G1.D.str, by omega, by omega, fun by_ H2 b0_ b1_ hs a => ?_⟩
    obtain ⟨by_, rfl⟩ : ∃ j : Nat, by_ = (j : Int) := ⟨by_.toNat, by omega⟩
    have hby : by_ < us.length := by omega
    have G2 := G1.next a hs
    have a02 := a01.trans a
    clear G1 hs a hln a01 b0_ b1_
    walk_at "rd"
    refine ⟨by show 8 ≤ sizeLine; decide, fun p1 n1 => ?_⟩
    have c1 : Adv [] H2 (upd H2 p1 (.lst (rules0.map V.str))) := Adv.new n1
    have h1 : (upd H2 p1 (.lst (rules0.map V.str))) p1 = some (.lst (rules0.map V.str)) := upd_same
    have G3 := G2.same c1
    have a03 := a02.trans c1.nil
    have en : upd H2 p1 (.lst [.str "and left", .str "or right", .str "if right", .str "if right", .str "or left", .str "and right", .str "if left", .str "if left"]) = upd H2 p1 (.lst (rules0.map V.str)) := rfl
    rw [en]
    generalize (upd H2 p1 (.lst (rules0.map V.str))) = H3 at c1 h1 G3 a03
    clear G2 a02 c1 n1 en
    walk_at "rd"
    refine ⟨fun v H' => ∃ (p : Addr), v = .ref p ∧ H' p = some (.lst (((rules0 ++ rulesB (logicB x)) ++ (["cut"] : List Str)).map V.str)) ∧ H3 p = none ∧ Adv [] H3 H', ?_, ?_⟩
    · walk_at "rd"
      refine ⟨x, rfl, fun H4 a4 => ?_⟩
      have h14 := a4.same _ _ h1
      walk_at "rd"
      refine iteB (fun e => ?_) (fun e => ?_)
      · walk_at "rd"
        refine ⟨by show 5 ≤ sizeLine; decide, fun p5 n5 => ?_⟩
        have c5 := a4.newT (o := .lst ([.str "box", .str "box", .str "box", .str "given", .str "box left"] : List V)) n5
        have h15 := (Adv.new (M := []) (o := .lst ([.str "box", .str "box", .str "box", .str "given", .str "box left"] : List V)) n5).same _ _ h14
        walk_at "rd"
        refine catV_at h15 upd_same (by decide) fun p6 H6 n6 h6 a6 => ?_
        walk_at "rd"
        refine ⟨by show 1 ≤ sizeLine; decide, fun p7 n7 => ?_⟩
        walk_at "rd"
        refine catV_at ((Adv.new (M := []) (o := .lst [.str "cut"]) n7).same _ _ h6) upd_same (by decide) fun p8 H8 n8 h8 a8 => ?_
        exact ⟨p8, rfl, by rw [h8, e]; rfl, ((c5.trans a6).newT n7).free (by simp) n8, (((c5.trans a6).newT n7).trans a8)⟩
      · walk_at "rd"
        refine ⟨Nat.zero_le _, fun p5 n5 => ?_⟩
        have c5 := a4.newT (o := .lst ([] : List V)) n5
        have h15 := (Adv.new (M := []) (o := .lst ([] : List V)) n5).same _ _ h14
        walk_at "rd"
        refine catV_at h15 upd_same (by decide) fun p6 H6 n6 h6 a6 => ?_
        walk_at "rd"
        refine ⟨by show 1 ≤ sizeLine; decide, fun p7 n7 => ?_⟩
        walk_at "rd"
        refine catV_at ((Adv.new (M := []) (o := .lst [.str "cut"]) n7).same _ _ h6) upd_same (by decide) fun p8 H8 n8 h8 a8 => ?_
        exact ⟨p8, rfl, by rw [h8, e]; rfl, ((c5.trans a6).newT n7).free (by simp) n8, (((c5.trans a6).newT n7).trans a8)⟩
    · rintro v H4 ⟨p, rfl, h4, np, a4⟩
      have ps : p ≠ st := fun z => G3.D.str.here (by rw [← z]; exact np)
      have G4 := G3.same a4
      have a04 := a03.trans a4.nil
      clear G3 a03 np
      walk_at "rd"
      refine ⟨st, p, _, M, rfl, G4.D.str, .inl h4, ps, by cases logicB x <;> decide, by cases logicB x <;> decide, fun rv H5 hx hs a => ?_⟩
      obtain ⟨rule, hrl, rfl⟩ := List.mem_map.mp hx
      have hbx : rule = "box left" → logicB x = true := fun e => rules_box (e ▸ hrl)
      have G5 := G4.next a hs
      have a05 : Adv [st, b0, b1, ln] H H5 := (a04.trans a).more (by simp)
      clear G4 hs a h4 ps a4 hrl hx a04
      have TH5 := TH.adv a05 (Nat.le_refl _)
      have bas : ∀ (ns1 : List Nd) (H6 : Hp), ns.length ≤ ns1.length → ns1.length ≤ ns.length + 3 → Gw M H6 st bk b0 b1 ln (logicB x) ns1 us S → Adv [st, b0, b1, ln] H H6 → BasP [.ref st, .str x, .ref bk, .ref ln, .int 4, .bl false] H6 Q := fun ns1 H6 g1 g2 G6 a06 =>
        ⟨⟨M, st, bk, b0, b1, ln, x, ns1, us, S, 4, false, rfl, G6, by decide, by decide, by omega, by omega, fun v ns' H' k1 k2 GF aF => q _ ns' (us ++ [v]) ths S H' (by omega) (by simp) (by rw [List.length_append, List.length_singleton]; omega) (by omega) S2 (by omega) (by unfold pot; omega) (GF.mono (by omega)) (TH.adv (a06.trans aF) (by omega)) ((a06.trans aF).more (by simp +contextual))⟩⟩
      clear TH
      walk_at "rd"
      refine iteB (fun e => ?_) (fun e => ?_)
      · obtain ⟨le, ri, X1⟩ := G5.ok us[at_] (List.getElem_mem _)
        obtain ⟨t, l, r, a1, a2, a3, et, ht, tM, La, Ra⟩ := X1.sides
        have hus : us[at_]? = some (.ref t) := by rw [List.getElem?_eq_getElem hat, et]
        have hln := G5.hl
        have sqt := SqT.of (K := K) ht
        have sql := La.sq (K := K)
        walk_at "rd"
        refine iteB (fun e2 => ?_) (fun e2 => ?_)
        · walk_at "rd"
          exact bas ns H5 (Nat.le_refl _) (by omega) G5 a05
        · have ne : nVl le ≠ [] := fun z => by
            rw [z] at e2
            exact absurd e2 (by decide)
          walk_at "rd"
          clear bas
          refine ⟨st, l, nVl le, M, rfl, G5.D.str, .inr La.h, fun z => La.m (by rw [z]; exact G5.D.ms), ne, by have := La.z; rw [nVl_ln]; omega, fun v H6 hx hs a => ?_⟩
          obtain ⟨i, hi⟩ := List.mem_iff_getElem?.mp hx
          obtain ⟨main, ho, rfl⟩ := nVl_gt hi
          have mb := La.b main (List.mem_of_getElem? ho)
          have G6 := G5.next a hs
          have am := a.more (N := M) (by simp [G5.D.ms])
          have La6 := La.adv am
          have Ra6 := Ra.adv am
          have T6 := (Tp.of ht tM).adv am
          have TH6 := TH5.adv (a.more (by simp)) (Nat.le_refl _)
          have a06 : Adv [st, b0, b1, ln, th] H H6 := (a05.trans (a.more (by simp))).more (by simp +contextual)
          clear G5 a hs La Ra TH5 a05 ht tM hln et sqt sql hx hi ho am
          walk_at "rd"
          refine ⟨fun σ' H' => ∃ (ths2 : List Nat), σ' = [some (.ref st), some (.str x), some (.ref bk), some (.ref th), some (.ref ln), some (.int 4), some (.bl true), some (.bl false), some (.int (at_ : Nat)), some (.int (by_ : Nat)), some (.ref p), some (.str rule), some (.ref l), some (.int (main : Nat)), none] ∧ ths2.length ≤ ths.length + 1 ∧ Gw M H' st bk b0 b1 ln (logicB x) ns us S ∧ Sd M H' ns.length S l le ∧ Sd M H' ns.length S r ri ∧ Tp M H' t [.ref l, .ref r, a1, a2, a3] ∧ Thy M H' st b0 b1 ln th ns.length ths2 ∧ Adv [st, b0, b1, ln, th] H H', ?_, ?_⟩
          · walk_at "rd"
            refine ⟨th, nVl ths, rfl, .inl (SqL.of TH6.h), rfl, nVl_flat ths, _, rfl, iteB (fun e3 => ?_) (fun e3 => ?_)⟩
            · have hth := TH6.h
              walk_at "rd"
              refine rd_app TH6.h (by rw [sizeLine_eq, nVl_ln]; omega) ?_
              have aset : Adv M H6 (upd H6 th (.lst (nVl ths ++ [.int (main : Nat)]))) := Adv.set TH6.m
              exact ⟨ths ++ [main], rfl, by simp, G6.put TH6.m TH6.n0 TH6.n1 TH6.n2 TH6.n3, La6.adv aset, Ra6.adv aset, T6.adv aset, ⟨by rw [← nVl_app]; exact upd_same, TH6.m, TH6.n0, TH6.n1, TH6.n2, TH6.n3, fun y hy => (List.mem_append.mp hy).elim (TH6.b y) (fun hy => by rw [List.mem_singleton.mp hy]; exact mb)⟩, a06.trans (Adv.set (by simp))⟩
            · walk_at "rd"
              exact ⟨ths, rfl, by omega, G6, La6, Ra6, T6, TH6, a06⟩
          · rintro σ' H7 ⟨ths2, rfl, t2, G, La, Ra, T, TH7, A0⟩
            clear G6 La6 Ra6 T6 TH6 a06
            have hz1 := La.z
            have hz2 := Ra.z
            have hln := G.hl
            have sqt := T.sq A.W
            have fl := lesF_le le main
            walk_at "rd"
            refine les_at La.rws (by omega) fun D H8 nx hD ax => ?_
            replace G := G.same ax
            replace Ra := Ra.adv ax.nil
            replace La := La.adv ax.nil
            replace A0 := A0.trans ax.nil
            replace TH7 := TH7.adv ax.nil (Nat.le_refl _)
            replace hln := ax.same _ _ hln
            replace sqt := SqT.adv ax sqt
            clear ax nx T
            walk_at "rd"
            refine ⟨by show 1 ≤ sizeLine; decide, fun pp nx => ?_⟩
            have ax : Adv [] H8 (upd H8 pp (.tup [.int (at_ : Nat)])) := Adv.new nx
            have hpp : (upd H8 pp (.tup [.int (at_ : Nat)])) pp = some (.tup [.int (at_ : Nat)]) := upd_same
            have ppM : pp ∉ M := not_mem_new G.al nx
            replace G := G.same ax
            replace Ra := Ra.adv ax.nil
            replace La := La.adv ax.nil
            replace A0 := A0.trans ax.nil
            replace TH7 := TH7.adv ax.nil (Nat.le_refl _)
            replace hD := ax.same _ _ hD
            clear hln sqt
            generalize (upd H8 pp (.tup [.int (at_ : Nat)])) = H9 at ax hpp G Ra La A0 TH7 hD
            clear ax nx
            walk_at "rd"
            refine G.linE (S' := S) (by omega) (.inl hD) Ra.rws (Tp.of hpp ppM) (fun y hy => La.b y (lesF_mem hy)) (fun y hy => Ra.b y hy) (by omega) (by omega) (by omega) (by omega) fun v HF GF aF => ?_
            exact q _ ns (us ++ [v]) ths2 S HF (by omega) (by simp) (by rw [List.length_append, List.length_singleton]; omega) t2 S2 Sn (by unfold pot; omega) GF (TH7.adv (aF.more (by simp)) (Nat.le_refl _)) (A0.trans (aF.more (by simp)))
      · walk_at "rd"
        refine ⟨by show 4 ≤ sizeLine; decide, fun p4 n4 => ?_⟩
        have c4 : Adv [] H5 (upd H5 p4 (.tup [.str "or left", .str "and right", .str "if left", .str "cut"])) := Adv.new n4
        have h4 : (upd H5 p4 (.tup [.str "or left", .str "and right", .str "if left", .str "cut"])) p4 = some (.tup [.str "or left", .str "and right", .str "if left", .str "cut"]) := upd_same
        have G6 := G5.same c4
        have a06 := a05.trans c4.nil
        have TH6 := TH5.adv c4.nil (Nat.le_refl _)
        generalize (upd H5 p4 (.tup [.str "or left", .str "and right", .str "if left", .str "cut"])) = H6 at c4 h4 G6 a06 TH6
        clear G5 a05 TH5 c4 n4
        refine ⟨p4, _, rfl, .inr (SqT.of h4), rfl, rfl, _, rfl, iteB (fun e2 => ?_) (fun e2 => ?_)⟩
        · walk_at "rd"
          refine ⟨fun σ' H' => H' = H6 ∧ σ' = [some (.ref st), some (.str x), some (.ref bk), some (.ref th), some (.ref ln), some (.int 4), some (.bl true), some (.bl false), some (.int (at_ : Nat)), some (.int (by_ : Nat)), some (.ref p), some (.str rule), none, none, none], ?_, ?_⟩
          · walk_at "rd"
            refine iteB (fun e3 => ?_) (fun e3 => ?_)
            · walk_at "rd"
              exact rfl
            · walk_at "rd"
              exact rfl
          rintro σ' H' ⟨rfl, rfl⟩
          walk_at "rd"
          refine ⟨⟨M, st, bk, b0, b1, ln, logicB x, rule, ns, us, S, at_, by_, 4, rfl, G6, hat, hby, by decide, by decide, by omega, by omega, by omega, fun v ns' H' g1 g2 GF aF => ?_⟩⟩
          exact q _ ns' (us ++ [v]) ths (max 2 (min (S + S + 1) ns'.length)) H' g1 (by simp) (by rw [List.length_append, List.length_singleton]; omega) (by omega) (by omega) (by omega) (by unfold pot; omega) (GF.cap.mono (by omega)) (TH6.adv aF g1) ((a06.trans aF).more (by simp +contextual))
        · walk_at "rd"
          refine ⟨fun σ' H' => H' = H6 ∧ σ' = [some (.ref st), some (.str x), some (.ref bk), some (.ref th), some (.ref ln), some (.int 4), some (.bl true), some (.bl false), some (.int (at_ : Nat)), some (.int (by_ : Nat)), some (.ref p), some (.str rule), none, none, none], ?_, ?_⟩
          · walk_at "rd"
            refine iteB (fun e3 => ?_) (fun e3 => ?_)
            · walk_at "rd"
              exact rfl
            · walk_at "rd"
              exact rfl
          rintro σ' H' ⟨rfl, rfl⟩
          walk_at "rd"
          refine ⟨⟨M, st, bk, b0, b1, ln, x, rule, ns, us, S, at_, 4, rfl, G6, hat, by decide, by decide, hbx, by omega, by omega, hS, fun ns' H' g1 g2 GF aF => ?_, fun r ns' us' H' g1 g2 g3 g4 GF aF => ?_⟩⟩
          · walk_at "rd"
            exact bas ns' H' g1 g2 GF (a06.trans aF)
          · have hr1 : decide (V.int (r : Nat) = V.int (-1)) = false := decide_eq_false (fun z => by
              injection z with z
              omega)
            walk_at "rd"
            exact q _ ns' us' ths (max 2 (min (S + 1) ns'.length)) H' g1 g3 (by omega) (by omega) (by omega) (by omega) (by unfold pot; omega) (GF.cap.mono (by omega)) (TH6.adv aF g1) ((a06.trans aF).more (by simp +contextual))
end

set_option Elab.async false
set_option linter.all false
set_option maxRecDepth 100000
set_option maxHeartbeats 4000000
open PySem PySem.Spec PyProof.Rows L2 LL
open C8 (pss_cut)
section
variable [KW]
variable {P : Program} {w : World} {K : PySem.W.Frag} {mg : Str → Option Value} {base : Heap}
/-! ### _law_grow -/
theorem cr_sortedK {X : Cx} (K : PySem.W.Frag) (hK : X.K = K) : CallR X (.builtin "sorted") (rSorted K) := hK ▸ cr_sorted
theorem perm_nat {l : List Nat} {ns : List Int} (h : ns.Perm (l.map fun r => ((r : Nat) : Int))) : ∃ l' : List Nat, ns.map V.int = nVl l' ∧ l'.length = l.length := by
  refine ⟨ns.map Int.toNat, ?_, by rw [List.length_map, h.length_eq, List.length_map]⟩
  unfold nVl
  rw [List.map_map]
  refine List.map_congr_left fun i hi => ?_
  obtain ⟨r, _, rfl⟩ := List.mem_map.mp (h.mem_iff.mp hi)
  rfl
theorem nVl_ev (l : List Nat) : nVl l = (l.map fun r => ((r : Nat) : Int)).map V.int := by unfold nVl; rw [List.map_map]; rfl
/-! ### _law_grown -/
/-- how much is grown after so many turns -/
def fT : Nat → Nat
  | 0 => 59
  | n + 1 => 17 * fT n / 12 + 60
theorem fT_mono {a b : Nat} (h : a ≤ b) : fT a ≤ fT b := by
  induction b with
  | zero => rw [Nat.le_zero.mp h]; exact Nat.le_refl _
  | succ b ih =>
    rcases Nat.lt_or_eq_of_le h with h | rfl
    · have := ih (by omega)
      show _ ≤ 17 * fT b / 12 + 60
      omega
    · exact Nat.le_refl _
theorem fT_12 : fT 12 = 13049 := by decide
/-- what the loop keeps -/
structure GrnI (M2 : List Addr) (H : Hp) (st bk b0 b1 ln th : Addr) (x : Str) (many : Nat) (i : Nat) (σ' : L2.St) (H' : Hp) : Prop where
  ex : ∃ (ns : List Nd) (us : List V) (ths : List Nat) (S : Nat) (y9 : Option V), σ' = [some (.ref st), some (.str x), some (.int 4), some (.int (many : Nat)), some (.bl true), some (.bl false), some (.ref bk), some (.ref th), some (.ref ln), y9, none] ∧ Gw M2 H' st bk b0 b1 ln (logicB x) ns us S ∧ Thy M2 H' st b0 b1 ln th ns.length ths ∧ 0 < us.length ∧ us.length ≤ 2000 * (i + 1) ∧ 2 ≤ S ∧ S ≤ ns.length + 2 ∧ pot ns.length S ≤ fT i ∧ ths.length ≤ i ∧ Adv [st, b0, b1, ln, th] H H'
theorem drop5 {H H' : Hp} {s b0 b1 ln th : Addr} (a : Adv [s, b0, b1, ln, th] H H') (h0 : H b0 = none) (h1 : H b1 = none) (h2 : H ln = none) (h3 : H th = none) : Adv [s] H H' := fun b o hb e => a b o (fun z => by
  simp only [List.mem_cons, List.not_mem_nil, or_false] at z
  rcases z with z | z | z | z | z
  · exact hb (by rw [z]; simp)
  · rw [z, h0] at e; cases e
  · rw [z, h1] at e; cases e
  · rw [z, h2] at e; cases e
  · rw [z, h3] at e; cases e) e
structure GrnP (vs : List V) (H : Hp) (Q : VK) : Prop where
  ex : ∃ (M : List Addr) (s : Addr) (x : Str) (many : Nat), vs = [.ref s, .str x, .int 4, .int (many : Nat), .bl true, .bl false] ∧ StrAt M H s ∧ s ∈ M ∧ (∀ b ∈ M, H b ≠ none) ∧ many ≤ 12 ∧
    ∀ t c u ns ths le ri H', H' t = some (.tup [.ref c, u]) → Is M H' (clmD ns ths le ri) (.ref c) → okSheet (logicB x) ns → ns.length ≤ 2700 → ths.length ≤ 12 → le.length ≤ 1900 → ri.length ≤ 1900 → StrAt M H' s → Adv [s] H H' → Q (.ref t) H'
def spGrn : Sp := fun vs H Q _ => GrnP vs H Q
theorem ok_law_grown (A : All K mg w) : FnOk P w K mg base CX0 10 A.law_grown.f A.law_grown.fd ["stream", "logic", "letters", "many", "cuts", "one"] spGrn := by
  refine A.law_grown.F.ok sc_law_grown (fun vs H Q E h => ?_) (fun cdv Ar outer s H vs Q E hr h => ?_)
  · obtain ⟨M, s, x, many, rfl, _⟩ := h.ex
    rfl
  · obtain ⟨M, st, x, many, rfl, hs, ms, hal, hm, q⟩ := h.ex
    refine ⟨_, (pss_cons (ps_par3 (i := 6) (j := 7) (l := 8) (by rfl) sc_law_grown.nd rfl rfl rfl (by decide) (by decide) (by decide) rfl rfl rfl (pa_cons (pe_lst (pa_cons (pe_lst pa_nil) (pa_cons (pe_dnewX A.W) pa_nil))) (pa_cons (pe_lst pa_nil) (pa_cons (pe_lst pa_nil) pa_nil))) (by rfl))
  (pss_cons (ps_expr (pe_call (ok_law_base A) (hr.mono (by omega)) rfl A.law_base.m A.law_base.F.kp A.law_base.b .nil pass0 (pa_cons (pv 0) (pa_cons (pv 1) (pa_cons (pv 6) (pa_cons (pv 8) (pa_cons (pv 2) (pa_cons (pv 5) pa_nil))))))))
  (pss_cons (ps_for PassesOwn.never rfl (pi_range1 rfl A.T.range (pa_cons (pv 3) pa_nil)) (pg_name (i := 9) sc_law_grown.nd rfl (Or.inl rfl))
    (pss_one (ps_if (PW.pt (pw_and (pt_cmpR op_eq (pe_call (ok_law_next A) (hr.mono (by omega)) rfl A.law_next.m A.law_next.F.kp A.law_next.b .nil pass0 (pa_cons (pv 0) (pa_cons pe_int pa_nil))) pe_int (nomark _)) (pw_and1 (pt_cmpR op_lt (pe_op op_add (pv 9) pe_int) (pv 3) (nomark _)))))
    (pss_one (ps_expr (pe_call (ok_law_base A) (hr.mono (by omega)) rfl A.law_base.m A.law_base.F.kp A.law_base.b .nil pass0 (pa_cons (pv 0) (pa_cons (pv 1) (pa_cons (pv 6) (pa_cons (pv 8) (pa_cons (pv 2) (pa_cons (pv 5) pa_nil)))))))))
    (pss_one (ps_expr (pe_call (ok_law_grow A) (hr.mono (by omega)) rfl A.law_grow.m A.law_grow.F.kp A.law_grow.b .nil pass0 (pa_cons (pv 0) (pa_cons (pv 1) (pa_cons (pv 6) (pa_cons (pv 7) (pa_cons (pv 8) (pa_cons (pv 2) (pa_cons (pv 4) (pa_cons (pv 5) pa_nil))))))))))))))
  (pss_cons (ps_set (i := 10) sc_law_grown.nd rfl (Or.inl rfl) (pe_ix (ix_listK K rfl) (pv 8) (pe_op op_sub (pe_callB call_len_seq (by rfl) A.T.len PySem.boot_len (pa_cons (pv 8) pa_nil)) pe_int) (fun _ _ => rfl)))
  (pss_one (ps_ret (pe_tup (pa_cons (pe_tup (pa_cons (pe_callTy call_list_of (by rfl) A.T.list (by decide +kernel) (pa_cons (pe_ix (ix_listK K rfl) (pv 6) pe_int (fun _ _ => rfl)) pa_nil)) (pa_cons (pe_callTy call_tuple_of (by rfl) A.T.tuple (by decide +kernel) (pa_cons (pe_callB (cr_sortedK K rfl) (by rfl) A.T.sorted (by decide +kernel) (pa_cons (pv 7) pa_nil)) pa_nil)) (pa_cons (pe_ix ix_tup (pv 10) pe_int (fun _ _ => rfl)) (pa_cons (pe_ix ix_tup (pv 10) pe_int (fun _ _ => rfl)) pa_nil))))) (pa_cons (pe_tup (pa_cons (pe_ix (ix_listK K rfl) (pv 6) pe_int (fun _ _ => rfl)) (pa_cons (pv 8) pa_nil))) pa_nil))))))))), ?_⟩
    walk_at "rd"
    refine ⟨Nat.zero_le _, fun b0 n0 => ?_⟩
    walk_at "rd"
    intro b1 n1
    walk_at "rd"
    refine ⟨by show 2 ≤ sizeLine; decide, fun bk nk => ?_⟩
    have D0 : Dw _ _ st bk b0 b1 (logicB x) [] := Dw.new hs ms hal n0 n1 nk
    have aN : Adv [] H (upd (upd (upd H b0 (.lst [])) b1 (dxo b1 [])) bk (.lst [.ref b0, .ref b1])) := ((Adv.new n0).newT n1).newT nk
    have n1' : H b1 = none := (Adv.new (M := []) (o := .lst []) n0).free (by simp) n1
    generalize (upd (upd (upd H b0 (.lst [])) b1 (dxo b1 [])) bk (.lst [.ref b0, .ref b1])) = H3 at D0 aN
    walk_at "rd"
    refine ⟨Nat.zero_le _, fun th n3 => ?_⟩
    have D1 := D0.fresh (o := .lst []) n3
    have f3 := D0.free n3
    have a1 := aN.newT (o := .lst []) n3
    have n3' : H th = none := aN.free (by simp) n3
    have h3 : (upd H3 th (.lst [])) th = some (.lst (nVl [])) := upd_same
    generalize (upd H3 th (.lst [])) = H4 at D1 a1 h3
    clear D0 aN n3
    walk_at "rd"
    refine ⟨Nat.zero_le _, fun ln n4 => ?_⟩
    have D2 := D1.fresh (o := .lst []) n4
    have f4 := D1.free n4
    have a2 := a1.newT (o := .lst []) n4
    have n4' : H ln = none := a1.free (by simp) n4
    have tln : th ≠ ln := ne_of_none h3 n4
    have h4 : (upd H4 ln (.lst [])) ln = some (.lst []) := upd_same
    have h3 := (Adv.new (M := []) (o := .lst []) n4).same _ _ h3
    generalize (upd H4 ln (.lst [])) = H5 at D2 a2 h3 h4
    clear D1 a1 n4
    have G : Gw (ln :: th :: b1 :: b0 :: M) H5 st bk b0 b1 ln (logicB x) [] [] 2 := ⟨D2, by simp, f4.2.1, f4.2.2.2.1, f4.2.2.2.2, h4, fun v hv => absurd hv (by simp)⟩
    have TH : Thy (ln :: th :: b1 :: b0 :: M) H5 st b0 b1 ln th 0 [] := ⟨h3, by simp, f3.2.1, f3.2.2.2.1, f3.2.2.2.2, tln, fun y hy => absurd hy (by simp)⟩
    clear D2 f3 f4 h3 h4
    have A0 : Adv [st, b0, b1, ln, th] H H5 := a2.nil
    walk_at "rd"
    refine ⟨⟨_, st, bk, b0, b1, ln, x, [], [], 2, 4, false, rfl, G, by decide, by decide, by decide, by decide, fun v ns1 H6 g1 g2 G6 a6 => ?_⟩⟩
    have TH6 := TH.adv a6 (Nat.zero_le ns1.length)
    have A6 : Adv [st, b0, b1, ln, th] H H6 := A0.trans (a6.more (by simp +contextual))
    clear G TH A0 a2 a6
    walk_at "rd"
    refine ⟨by omega, by omega, ?_⟩
    rw [Int.toNat_natCast]
    refine for_range (lo := 0) (n := many) (GrnI (ln :: th :: b1 :: b0 :: M) H st bk b0 b1 ln th x many)
      ⟨⟨ns1, [v], [], 2, _, rfl, G6, TH6, by simp, by simp, by decide, by omega, by unfold pot; show _ ≤ 59; simp at g2; omega, by simp, A6⟩⟩ ?_ ?_
    · rintro i σ' H' hi ⟨ns, us, ths, S, y9, rfl, G, TH, u0, uz, S2, Sn, pt, tz, A0⟩
      have fm : fT i ≤ 13049 := by
        have := fT_mono (a := i) (b := 12) (by omega)
        rw [fT_12] at this
        exact this
      have pt' := pt
      unfold pot at pt'
      walk_at "rd"
      have uz2 : us.length ≤ 30000 := by omega
      have grow : ∀ (H7 : Hp), Gw (ln :: th :: b1 :: b0 :: M) H7 st bk b0 b1 ln (logicB x) ns us S → Adv [st] H' H7 → ∀ Q' : VK, (∀ v H8, GrnI (ln :: th :: b1 :: b0 :: M) H st bk b0 b1 ln th x many (i + 1) [some (.ref st), some (.str x), some (.int 4), some (.int (many : Nat)), some (.bl true), some (.bl false), some (.ref bk), some (.ref th), some (.ref ln), some (.int (0 + (i : Int))), none] H8 → Q' v H8) → GroP [.ref st, .str x, .ref bk, .ref th, .ref ln, .int 4, .bl true, .bl false] H7 Q' := fun H7 G7 a7 Q' hq =>
        ⟨⟨_, st, bk, b0, b1, ln, th, x, ns, us, ths, S, rfl, G7, TH.adv (a7.more (by simp)) (Nat.le_refl _), u0, S2, Sn, by omega, by omega, by omega, by omega, fun v ns' us' ths' S' H8 g1 g2 g3 g4 g5 g6 g7 G8 TH8 a8 => hq v H8 ⟨⟨ns', us', ths', S', _, rfl, G8, TH8, by omega, by omega, g5, g6, by show _ ≤ 17 * fT i / 12 + 60; omega, by omega, (A0.trans (a7.more (by simp))).trans a8⟩⟩⟩⟩
      refine ⟨st, 4, _, rfl, G.D.str, by decide, by decide, fun d H7 d0 d1 hs7 a7 => ?_⟩
      have G7 := G.next a7 hs7
      have gr := grow H7 G7 a7
      walk_at "rd"
      refine iteB (fun e => ?_) (fun e => ?_)
      · walk_at "rd"
        refine iteB (fun e2 => ?_) (fun e2 => ?_)
        · walk_at "rd"
          refine ⟨⟨_, st, bk, b0, b1, ln, x, ns, us, S, 4, false, rfl, G7, by decide, by decide, by omega, by omega, fun v ns' H8 g1 g2 G8 a8 => ?_⟩⟩
          walk_at "rd"
          exact ⟨⟨ns', us ++ [v], ths, S, _, rfl, G8.mono (by omega), (TH.adv (a7.more (by simp)) (Nat.le_refl _)).adv a8 g1, by simp, by rw [List.length_append, List.length_singleton]; omega, S2, by omega, by show _ ≤ 17 * fT i / 12 + 60; unfold pot; omega, by omega, (A0.trans (a7.more (by simp))).trans (a8.more (by simp +contextual))⟩⟩
        · walk_at "rd"
          refine gr _ fun v H8 I8 => ?_
          walk_at "rd"
          exact I8
      · walk_at "rd"
        refine gr _ fun v H8 I8 => ?_
        walk_at "rd"
        exact I8
    · rintro σ' H' ⟨ns, us, ths, S, y9, rfl, G, TH, u0, uz, S2, Sn, pt, tz, A0⟩
      have fm : fT many ≤ 13049 := by
        have := fT_mono (a := many) (b := 12) hm
        rw [fT_12] at this
        exact this
      have pt' := pt
      unfold pot at pt'
      obtain ⟨le, ri, X1⟩ := G.ok us[us.length - 1] (List.getElem_mem _)
      obtain ⟨t, l, r, a1, a2, a3, et, ht, tM, La, Ra⟩ := X1.sides
      have hus : us[us.length - 1]? = some (.ref t) := by rw [List.getElem?_eq_getElem (by omega), et]
      have hln := G.hl
      have hbk := G.D.hbk
      have sqt := SqT.of (K := K) ht
      obtain ⟨rs, hb, hrs⟩ := G.D.B.rows
      have ei : (us.length : Int) - 1 = ((us.length - 1 : Nat) : Int) := by omega
      walk_at "rd"
      rw [ei]
      walk_at "rd"
      intro sh nsh
      have c1 : Adv [] H' (upd H' sh (.lst rs)) := Adv.new nsh
      have shM : sh ∉ (ln :: th :: b1 :: b0 :: M) := not_mem_new G.al nsh
      have h1 : (upd H' sh (.lst rs)) sh = some (.lst rs) := upd_same
      have hth := c1.same _ _ TH.h
      generalize (upd H' sh (.lst rs)) = H7 at c1 h1 hth
      clear nsh hbk
      have sqt := SqT.adv c1 sqt
      walk_at "rd"
      rw [nVl_ev] at hth
      refine ⟨th, _, rfl, SqL.of hth, by rw [List.length_map]; omega, fun ns2 p pm pw np => ?_⟩
      obtain ⟨ths2, e2, z2⟩ := perm_nat pm
      rw [e2]
      refine ⟨p, _, rfl, .inl ⟨SqL.of upd_same, fun tt ntt => ?_⟩⟩
      have c2 := (c1.newT (o := .lst (nVl ths2)) np).newT (o := .tup (nVl ths2)) ntt
      have ttM : tt ∉ (ln :: th :: b1 :: b0 :: M) := not_mem_new (G.same (c1.newT (o := .lst (nVl ths2)) np)).al ntt
      have h2 : (upd (upd H7 p (.lst (nVl ths2))) tt (.tup (nVl ths2))) tt = some (.tup (nVl ths2)) := upd_same
      have h1 := ((Adv.new (M := []) (o := .lst (nVl ths2)) np).newT (o := .tup (nVl ths2)) ntt).same _ _ h1
      have sqt := SqT.adv ((Adv.new (M := []) (o := .lst (nVl ths2)) np).newT (o := .tup (nVl ths2)) ntt) sqt
      generalize (upd (upd H7 p (.lst (nVl ths2))) tt (.tup (nVl ths2))) = H8 at c2 h2 h1 sqt
      clear np ntt c1 hth pm pw e2
      walk_at "rd"
      refine ⟨by show 4 ≤ sizeLine; decide, fun c nc => ?_⟩
      have c3 := c2.newT (o := .tup [.ref sh, .ref tt, .ref l, .ref r]) nc
      have cM : c ∉ (ln :: th :: b1 :: b0 :: M) := not_mem_new (G.same c2).al nc
      have hc : (upd H8 c (.tup [.ref sh, .ref tt, .ref l, .ref r])) c = some (.tup [.ref sh, .ref tt, .ref l, .ref r]) := upd_same
      have h1 := (Adv.new (M := []) (o := .tup [.ref sh, .ref tt, .ref l, .ref r]) nc).same _ _ h1
      have h2 := (Adv.new (M := []) (o := .tup [.ref sh, .ref tt, .ref l, .ref r]) nc).same _ _ h2
      have hbk := c3.same _ _ G.D.hbk
      generalize (upd H8 c (.tup [.ref sh, .ref tt, .ref l, .ref r])) = H9 at c3 hc h1 h2 hbk
      clear nc c2 sqt hln
      walk_at "rd"
      refine ⟨by show 2 ≤ sizeLine; decide, fun u nu => ?_⟩
      have c4 := c3.newT (o := .tup [.ref b0, .ref ln]) nu
      have hc := (Adv.new (M := []) (o := .tup [.ref b0, .ref ln]) nu).same _ _ hc
      have h1 := (Adv.new (M := []) (o := .tup [.ref b0, .ref ln]) nu).same _ _ h1
      have h2 := (Adv.new (M := []) (o := .tup [.ref b0, .ref ln]) nu).same _ _ h2
      generalize (upd H9 u (.tup [.ref b0, .ref ln])) = H10 at c4 hc h1 h2
      clear nu c3 hbk
      walk_at "rd"
      refine ⟨by show 2 ≤ sizeLine; decide, fun to nt => ?_⟩
      have c5 := c4.newT (o := .tup [.ref c, .ref u]) nt
      have hc := (Adv.new (M := []) (o := .tup [.ref c, .ref u]) nt).same _ _ hc
      have h1 := (Adv.new (M := []) (o := .tup [.ref c, .ref u]) nt).same _ _ h1
      have h2 := (Adv.new (M := []) (o := .tup [.ref c, .ref u]) nt).same _ _ h2
      walk_at "rd"
      have sub : ∀ b ∈ M, b ∈ (ln :: th :: b1 :: b0 :: M) := fun b hb => by simp [hb]
      have La := La.adv c5.nil
      have Ra := Ra.adv c5.nil
      have isN : ∀ {a : Addr} {ls : List Nat}, (upd H10 to (.tup [.ref c, .ref u])) a = some (.tup (nVl ls)) → a ∉ (ln :: th :: b1 :: b0 :: M) → Is M (upd H10 to (.tup [.ref c, .ref u])) (.tuple (nD ls)) (.ref a) := fun {a ls} ha hn => Is.tup ha (fun z => hn (sub _ z)) (nD_is _)
      refine q to c (.ref u) ns ths2 le ri _ upd_same ?_ G.D.ok (by omega) (by omega) (by have := La.z; omega) (by have := Ra.z; omega) ((G.D.str.same c5).less sub) (drop5 (A0.trans c5.nil) (Adv.free (M := []) (H' := H) (Adv.refl _ _) (by simp) (by assumption)) n1' n4' n3')
      exact Is.tup hc (fun z => cM (sub _ z)) (IsDs.cons (Is.lst h1 (fun z => shM (sub _ z)) ((hrs.adv c5.nil).less sub)) (IsDs.cons (isN h2 ttM) (IsDs.cons (isN La.h La.m) (IsDs.cons (isN Ra.h Ra.m) IsDs.nil))))
end

set_option Elab.async false
set_option linter.all false
set_option maxRecDepth 100000
set_option maxHeartbeats 4000000
open PySem PySem.Spec PyProof.Rows L2 LL
open C8 (pss_cut)
section
variable [KW]
variable {P : Program} {w : World} {K : PySem.W.Frag} {mg : Str → Option Value} {base : Heap}
/-! ### _law_grow -/
theorem drop3 {H H' : Hp} {s p q : Addr} (a : Adv [s, p, q] H H') (h1 : H p = none) (h2 : H q = none) : Adv [s] H H' := fun b o hb e => a b o (fun z => by
  rcases List.mem_cons.mp z with z | z
  · exact hb (by rw [z]; simp)
  · rcases List.mem_cons.mp z with z | z
    · rw [z, h1] at e; cases e
    · rw [List.mem_singleton.mp z, h2] at e; cases e) e
theorem rg_nat (n : Nat) : rgV 0 (n : Int) = nVl (List.range n) := by
  unfold rgV nVl
  have e : ((n : Int) - 0).toNat = n := by omega
  rw [e]
  congr 1
  funext i
  rw [Int.zero_add]
/-! ### _law_claim -/
structure ClaP (vs : List V) (H : Hp) (Q : VK) : Prop where
  ex : ∃ (M : List Addr) (s : Addr) (x : Str), vs = [.ref s, .str x] ∧ StrAt M H s ∧ s ∈ M ∧ (∀ b ∈ M, H b ≠ none) ∧
    ∀ v ns ths le ri H', Is M H' (clmD ns ths le ri) v → ns.length ≤ 2700 → ths.length ≤ 300 → le.length ≤ 1900 → ri.length ≤ 1900 → StrAt M H' s → Adv [s] H H' → Q v H'
def spCla : Sp := fun vs H Q _ => ClaP vs H Q
theorem ok_law_claim (A : All K mg w) : FnOk P w K mg base CX0 13 A.law_claim.f A.law_claim.fd ["stream", "logic"] spCla := by
  refine A.law_claim.F.ok sc_law_claim (fun vs H Q E h => ?_) (fun cdv Ar outer s H vs Q E hr h => ?_)
  · obtain ⟨M, s, x, rfl, _⟩ := h.ex
    rfl
  · obtain ⟨M, st, x, rfl, hs, ms, hal, q⟩ := h.ex
    refine ⟨_, (pss_cons (ps_set (i := 2) sc_law_claim.nd rfl (Or.inl rfl) (pe_call (ok_law_is_boxed A) (hr.mono (by omega)) rfl A.law_is_boxed.m A.law_is_boxed.F.kp A.law_is_boxed.b .nil pass0 (pa_cons (pv 1) pa_nil)))
  (pss_cons (ps_if (pt_cmpR op_eq (pe_call (ok_law_next A) (hr.mono (by omega)) rfl A.law_next.m A.law_next.F.kp A.law_next.b .nil pass0 (pa_cons (pv 0) (pa_cons pe_int pa_nil))) pe_int (nomark _))
    (pss_one (ps_ret (pe_ix ix_tup (pe_call (ok_law_grown A) (hr.mono (by omega)) rfl A.law_grown.m A.law_grown.F.kp A.law_grown.b .nil pass0 (pa_cons (pv 0) (pa_cons (pv 1) (pa_cons pe_int (pa_cons (pe_call (ok_law_from A) (hr.mono (by omega)) rfl A.law_from.m A.law_from.F.kp A.law_from.b .nil pass0 (pa_cons (pv 0) (pa_cons pe_int (pa_cons pe_int pa_nil)))) (pa_cons pe_bl (pa_cons pe_bl pa_nil))))))) pe_int (fun _ _ => rfl))))
    pss_nil)
  (pss_cut (ps_if (pt_cmpR op_eq (pe_call (ok_law_next A) (hr.mono (by omega)) rfl A.law_next.m A.law_next.F.kp A.law_next.b .nil pass0 (pa_cons (pv 0) (pa_cons pe_int pa_nil))) pe_int (nomark _))
    (pss_one (ps_set (i := 3) sc_law_claim.nd rfl (Or.inl rfl) (pe_call (ok_law_raw A) (hr.mono (by omega)) rfl A.law_raw.m A.law_raw.F.kp A.law_raw.b .nil pass0 (pa_cons (pv 0) (pa_cons (pe_cut (pe_call (ok_law_pick A) (hr.mono (by omega)) rfl A.law_pick.m A.law_pick.F.kp A.law_pick.b .nil pass0 (pa_cons (pv 0) (pa_cons (pe_tup (pa_cons pe_int (pa_cons pe_int (pa_cons pe_int (pa_cons pe_int (pa_cons pe_int (pa_cons pe_int (pa_cons (pe_call (ok_law_next A) (hr.mono (by omega)) rfl A.law_next.m A.law_next.F.kp A.law_next.b .nil pass0 (pa_cons (pv 0) (pa_cons pe_int pa_nil))) (pa_cons (pe_call (ok_law_next A) (hr.mono (by omega)) rfl A.law_next.m A.law_next.F.kp A.law_next.b .nil pass0 (pa_cons (pv 0) (pa_cons pe_int pa_nil))) (pa_cons (pe_call (ok_law_next A) (hr.mono (by omega)) rfl A.law_next.m A.law_next.F.kp A.law_next.b .nil pass0 (pa_cons (pv 0) (pa_cons pe_int pa_nil))) pa_nil)))))))))) pa_nil)))) (pa_cons (pv 2) pa_nil))))))
    (pss_cons (ps_set (i := 4) sc_law_claim.nd rfl (Or.inl rfl) (pe_lst (pa_cons (pe_lst pa_nil) (pa_cons (pe_dnewX A.W) pa_nil))))
  (pss_cons (ps_for PassesOwn.never rfl (pi_range1 rfl A.T.range (pa_cons pe_int pa_nil)) (pg_name (i := 5) sc_law_claim.nd rfl (Or.inl rfl))
    (pss_one (ps_expr (pe_call (ok_law_formula A 8) (hr.mono (by omega)) rfl A.law_formula.m A.law_formula.F.kp A.law_formula.b .nil pass0 (pa_cons (pv 0) (pa_cons (pv 4) (pa_cons pe_int (pa_cons (pe_call (ok_law_next A) (hr.mono (by omega)) rfl A.law_next.m A.law_next.F.kp A.law_next.b .nil pass0 (pa_cons (pv 0) (pa_cons pe_int pa_nil))) (pa_cons (pv 2) pa_nil)))))))))
  (pss_one (ps_set (i := 3) sc_law_claim.nd rfl (Or.inl rfl) (pe_ix (ix_listK K rfl) (pv 4) pe_int (fun _ _ => rfl)))))))
  (pss_cons (ps_set (i := 6) sc_law_claim.nd rfl (Or.inl rfl) (pe_listRg rfl rfl A.T.list (prg_1 rfl A.T.range (pe_callB call_len_seq (by rfl) A.T.len PySem.boot_len (pa_cons (pv 3) pa_nil)))))
  (pss_cons (ps_set (i := 7) sc_law_claim.nd rfl (Or.inl rfl) (pe_cut (pe_ifExp (PW.pt (pw_or (pt_val (pv 2)) (pw_or1 (pt_cmpR op_eq (pe_call (ok_law_next A) (hr.mono (by omega)) rfl A.law_next.m A.law_next.F.kp A.law_next.b .nil pass0 (pa_cons (pv 0) (pa_cons pe_int pa_nil))) pe_int (nomark _))))) (pe_call (ok_law_some A) (hr.mono (by omega)) rfl A.law_some.m A.law_some.F.kp A.law_some.b .nil pass0 (pa_cons (pv 0) (pa_cons (pv 6) (pa_cons (pe_call (ok_law_from A) (hr.mono (by omega)) rfl A.law_from.m A.law_from.F.kp A.law_from.b .nil pass0 (pa_cons (pv 0) (pa_cons pe_int (pa_cons pe_int pa_nil)))) pa_nil)))) (pe_lst pa_nil))))
  (pss_cons (ps_set (i := 8) sc_law_claim.nd rfl (Or.inl rfl) (pe_call (ok_law_pick A) (hr.mono (by omega)) rfl A.law_pick.m A.law_pick.F.kp A.law_pick.b .nil pass0 (pa_cons (pv 0) (pa_cons (pe_tup (pa_cons pe_int (pa_cons pe_int (pa_cons pe_int (pa_cons pe_int (pa_cons pe_int pa_nil)))))) pa_nil))))
  (pss_one (ps_ret (pe_tup (pa_cons (pv 3) (pa_cons (pe_callTy call_tuple_of (by rfl) A.T.tuple (by decide +kernel) (pa_cons (pv 7) pa_nil)) (pa_cons (pe_callTy call_tuple_of (by rfl) A.T.tuple (by decide +kernel) (pa_cons (pe_call (ok_law_some A) (hr.mono (by omega)) rfl A.law_some.m A.law_some.F.kp A.law_some.b .nil pass0 (pa_cons (pv 0) (pa_cons (pv 6) (pa_cons (pv 8) pa_nil)))) pa_nil)) (pa_cons (pe_callTy call_tuple_of (by rfl) A.T.tuple (by decide +kernel) (pa_cons (pe_call (ok_law_some A) (hr.mono (by omega)) rfl A.law_some.m A.law_some.F.kp A.law_some.b .nil pass0 (pa_cons (pv 0) (pa_cons (pv 6) (pa_cons (pe_call (ok_law_pick A) (hr.mono (by omega)) rfl A.law_pick.m A.law_pick.F.kp A.law_pick.b .nil pass0 (pa_cons (pv 0) (pa_cons (pe_tup (pa_cons pe_int (pa_cons pe_int (pa_cons pe_int (pa_cons pe_int pa_nil))))) pa_nil))) pa_nil)))) pa_nil)) pa_nil))))))))))))), ?_⟩
    walk_at "rd"
    refine ⟨x, rfl, fun H1 a1 => ?_⟩
    have hs1 := hs.same a1
    walk_at "rd"
    refine ⟨st, 5, M, rfl, hs1, by decide, by decide, fun d H2 d0 d1 hs2 a2 => ?_⟩
    have a02 := a1.nil.trans a2
    walk_at "rd"
    refine iteB (fun e => ?_) (fun e => ?_)
    · walk_at "rd"
      refine ⟨st, 1, 12, M, rfl, hs2, by decide, by decide, fun m H3 m0 m1 hs3 a3 => ?_⟩
      obtain ⟨m, rfl⟩ : ∃ j : Nat, m = (j : Int) := ⟨m.toNat, by omega⟩
      have a03 := a02.trans a3
      walk_at "rd"
      refine ⟨⟨M, st, x, m, rfl, hs3, ms, alloc_adv hal a03 (by simpa using hs3.here), by omega, fun t c u ns ths le ri H4 ht hc _ z1 z2 z3 z4 hs4 a4 => ?_⟩⟩
      have sqt := SqT.of (K := K) ht
      walk_at "rd"
      exact q (.ref c) ns ths le ri H4 hc z1 (by omega) z3 z4 hs4 (a03.trans a4)
    walk_at "rd"
    refine ⟨fun σ' H' => ∃ (sh : Addr) (rs : List V) (ns : List Nd) (y4 y5 : Option V), σ' = [some (.ref st), some (.str x), some (.bl (logicB x)), some (.ref sh), y4, y5, none, none, none] ∧ H' sh = some (.lst rs) ∧ sh ∉ M ∧ IsDs M H' (ns.map Nd.data) rs ∧ ns.length ≤ 90 ∧ StrAt M H' st ∧ Adv [st] H H', ?_, ?_⟩
    · walk_at "rd"
      refine ⟨st, 2, M, rfl, hs2, by decide, by decide, fun d H3 d0 d1 hs3 a3 => ?_⟩
      have a03 := a02.trans a3
      have al3 := alloc_adv hal a03 (by simpa using hs3.here)
      walk_at "rd"
      refine iteB (fun e => ?_) (fun e => ?_)
      · walk_at "rd"
        refine ⟨fun v H' => ∃ m : Nat, v = .int (m : Nat) ∧ m ≤ 61 ∧ StrAt M H' st ∧ Adv [st] H H', ?_, ?_⟩
        · walk_at "rd"
          refine ⟨st, 20, M, rfl, hs3, by decide, by decide, fun u1 H4 u10 u11 hs4 a4 => ?_⟩
          walk_at "rd"
          refine ⟨st, 20, M, rfl, hs4, by decide, by decide, fun u2 H5 u20 u21 hs5 a5 => ?_⟩
          walk_at "rd"
          refine ⟨st, 60, M, rfl, hs5, by decide, by decide, fun u3 H6 u30 u31 hs6 a6 => ?_⟩
          have a06 := ((a03.trans a4).trans a5).trans a6
          walk_at "rd"
          refine ⟨by show 9 ≤ sizeLine; decide, fun p np => ?_⟩
          have ap : Adv [] H6 (upd H6 p (.tup [.int 0, .int 1, .int 2, .int 59, .int 60, .int 61, .int u1, .int u2, .int u3])) := Adv.new np
          walk_at "rd"
          refine ⟨st, p, [.int 0, .int 1, .int 2, .int 59, .int 60, .int 61, .int u1, .int u2, .int u3], M, rfl, hs6.same ap, .inr upd_same, fun z => hs6.here (by rw [← z]; exact np), by simp, by simp, fun v H7 hx hs7 a7 => ?_⟩
          have b7 := a06.trans (ap.nil.trans a7)
          obtain ⟨m, rfl, hm⟩ : ∃ m : Nat, v = .int (m : Nat) ∧ m ≤ 61 := by
            simp only [List.mem_cons, List.not_mem_nil, or_false] at hx
            rcases hx with rfl | rfl | rfl | rfl | rfl | rfl | rfl | rfl | rfl
            · exact ⟨0, rfl, by decide⟩
            · exact ⟨1, rfl, by decide⟩
            · exact ⟨2, rfl, by decide⟩
            · exact ⟨59, rfl, by decide⟩
            · exact ⟨60, rfl, by decide⟩
            · exact ⟨61, rfl, by decide⟩
            · exact ⟨u1.toNat, by congr 1; omega, by omega⟩
            · exact ⟨u2.toNat, by congr 1; omega, by omega⟩
            · exact ⟨u3.toNat, by congr 1; omega, by omega⟩
          exact ⟨m, rfl, hm, hs7, b7⟩
        · rintro v H4 ⟨m, rfl, hm, hs4, a04⟩
          walk_at "rd"
          refine ⟨⟨M, st, m, logicB x, rfl, hs4, ms, alloc_adv hal a04 (by simpa using hs4.here), by omega, fun S rs ns H5 nS hS hrs _ hl hs5 a5 => ?_⟩⟩
          walk_at "rd"
          have nSM : S ∉ M := not_mem_new (alloc_adv hal a04 (by simpa using hs4.here)) nS
          exact ⟨S, rs, ns, _, _, rfl, hS, nSM, hrs.less (by simp +contextual), by omega, hs5, a04.trans a5⟩
      · walk_at "rd"
        refine ⟨Nat.zero_le _, fun b0 n0 => ?_⟩
        walk_at "rd"
        intro b1 n1
        walk_at "rd"
        refine ⟨by show 2 ≤ sizeLine; decide, fun bk nk => ?_⟩
        have D0 : Dw _ _ st bk b0 b1 (logicB x) [] := Dw.new hs3 ms al3 n0 n1 nk
        have aN : Adv [] H3 (upd (upd (upd H3 b0 (.lst [])) b1 (dxo b1 [])) bk (.lst [.ref b0, .ref b1])) := ((Adv.new n0).newT n1).newT nk
        have n1' : H3 b1 = none := (Adv.new (M := []) (o := .lst []) n0).free (by simp) n1
        generalize (upd (upd (upd H3 b0 (.lst [])) b1 (dxo b1 [])) bk (.lst [.ref b0, .ref b1])) = H4 at D0 aN
        clear n1 nk
        walk_at "rd"
        refine ⟨by omega, by omega, ?_⟩
        refine for_range (lo := 0) (n := 3) (fun i σ' H' => ∃ (ns : List Nd) (y5 : Option V), σ' = [some (.ref st), some (.str x), some (.bl (logicB x)), none, some (.ref bk), y5, none, none, none] ∧ Dw (b1 :: b0 :: M) H' st bk b0 b1 (logicB x) ns ∧ ns.length ≤ 30 * i ∧ Adv [st, b0, b1] H3 H')
          ⟨[], _, rfl, D0, by simp, aN.nil⟩ ?_ ?_
        · rintro i σ' H' hi ⟨ns, y5, rfl, D, hl, a⟩
          walk_at "rd"
          refine ⟨st, 9, _, rfl, D.str, by decide, by decide, fun k H5 k0 k1 hs5 a5 => ?_⟩
          have D5 := D.next a5 hs5
          walk_at "rd"
          refine ⟨⟨_, st, bk, b0, b1, logicB x, ns, 8, k, rfl, D5, by decide, by decide, k0, by omega, by decide, by omega, fun r ns' H6 x => ?_⟩⟩
          have xl := x.le
          walk_at "rd"
          exact ⟨ns', _, rfl, x.D, by omega, (a.trans (a_s a5)).trans x.a⟩
        · rintro σ' H' ⟨ns, y5, rfl, D, hl, a⟩
          obtain ⟨rs, hb, hrs⟩ := D.B.rows
          have hbk := D.hbk
          walk_at "rd"
          exact ⟨b0, rs, ns, _, _, rfl, hb, not_mem_new al3 n0, hrs.less (by simp +contextual), by omega, D.str.less (by simp +contextual), a03.trans (drop3 a n0 n1')⟩
    rintro σ' H3 ⟨sh, rs, ns, y4, y5, rfl, hsh, shM, hrs, hz, hs3, a03⟩
    clear hs1 hs2 a1 a02 a2
    have hrl := hrs.len
    rw [List.length_map] at hrl
    have shs : sh ≠ st := fun z => shM (by rw [z]; exact ms)
    have sqs := SqL.of (K := K) hsh
    walk_at "rd"
    unfold tLstRg tRg1
    walk_at "rd"
    rw [hrl]
    refine ⟨.of_le (by omega) (by omega) (by omega) (by omega), fun R nR => ?_⟩
    rw [rg_nat]
    have ap : Adv [] H3 (upd H3 R (.lst (nVl (List.range ns.length)))) := Adv.new nR
    have hR : (upd H3 R (.lst (nVl (List.range ns.length)))) R = some (.lst (nVl (List.range ns.length))) := upd_same
    have hs4 := hs3.same ap
    have a04 := a03.trans ap.nil
    have hsh4 := ap.same _ _ hsh
    have hrs4 := hrs.adv ap.nil
    generalize (upd H3 R (.lst (nVl (List.range ns.length)))) = H4 at ap hR hs4 a04 hsh4 hrs4
    clear hs3 a03 hsh hrs sqs ap nR hrl
    have Rs : R ≠ st := str_nl hs4 hR
    have sub90 : ∀ {l : List Nat}, l.Sublist (List.range ns.length) → l.length ≤ 90 := fun {l} h => by
      have := h.length_le
      rw [List.length_range] at this
      omega
    have sm : ∀ (H5 : Hp) (n : Int) (Q' : VK), StrAt M H5 st → Adv [st] H4 H5 → (∀ D ls H6, H6 D = some (.lst (nVl ls)) → ls.length ≤ 90 → D ≠ st → H5 D = none → StrAt M H6 st → Adv [st] H5 H6 → Q' (.ref D) H6) → SomeP [.ref st, .ref R, .int n] H5 Q' := fun H5 n Q' hs5 a5 hq =>
      ⟨⟨M, st, R, List.range ns.length, n, rfl, hs5, a5 _ _ (notin1 Rs) hR, by rw [List.length_range]; omega, fun D ls H6 nD hD sub hs6 a6 => hq D ls H6 hD (sub90 sub) (fun z => hs5.here (by rw [← z]; exact nD)) nD hs6 a6⟩⟩
    walk_at "rd"
    refine ⟨fun v H' => ∃ (T : Addr) (ts : List Nat), v = .ref T ∧ H' T = some (.lst (nVl ts)) ∧ ts.length ≤ 90 ∧ T ≠ st ∧ StrAt M H' st ∧ Adv [st] H4 H', ?_, ?_⟩
    · walk_at "rd"
      have drawn : ∀ (H5 : Hp) (n : Int), StrAt M H5 st → Adv [st] H4 H5 → SomeP [.ref st, .ref R, .int n] H5 fun v H' => ∃ (T : Addr) (ts : List Nat), v = .ref T ∧ H' T = some (.lst (nVl ts)) ∧ ts.length ≤ 90 ∧ T ≠ st ∧ StrAt M H' st ∧ Adv [st] H4 H' := fun H5 n hs5 a5 =>
        sm H5 n _ hs5 a5 fun D ls H6 hD hl ds _ hs6 a6 => ⟨D, ls, rfl, hD, hl, ds, hs6, a5.trans a6⟩
      refine iteB (fun e => ?_) (fun e => ?_)
      · walk_at "rd"
        refine ⟨st, 0, 3, M, rfl, hs4, by decide, by decide, fun m H5 m0 m1 hs5 a5 => ?_⟩
        walk_at "rd"
        exact drawn H5 m hs5 a5
      · walk_at "rd"
        refine ⟨st, 5, M, rfl, hs4, by decide, by decide, fun d H5 d0 d1 hs5 a5 => ?_⟩
        walk_at "rd"
        refine iteB (fun e2 => ?_) (fun e2 => ?_)
        · walk_at "rd"
          refine ⟨st, 0, 3, M, rfl, hs5, by decide, by decide, fun m H6 m0 m1 hs6 a6 => ?_⟩
          walk_at "rd"
          exact drawn H6 m hs6 (a5.trans a6)
        · walk_at "rd"
          refine ⟨Nat.zero_le _, fun p np => ?_⟩
          exact ⟨p, [], rfl, upd_same, by simp, fun z => hs5.here (by rw [← z]; exact np), hs5.same (Adv.new np), a5.newT np⟩
    rintro v H5 ⟨T, ts, rfl, hT, tz, Ts, hs5, a5⟩
    walk_at "rd"
    refine ⟨by show 5 ≤ sizeLine; decide, fun p np => ?_⟩
    have ap : Adv [] H5 (upd H5 p (.tup [.int 0, .int 1, .int 1, .int 2, .int 8])) := Adv.new np
    walk_at "rd"
    refine ⟨st, p, [.int 0, .int 1, .int 1, .int 2, .int 8], M, rfl, hs5.same ap, .inr upd_same, fun z => hs5.here (by rw [← z]; exact np), by simp, by simp, fun v H6 hx hs6 a6 => ?_⟩
    obtain ⟨sv, rfl⟩ : ∃ sv : Int, v = .int sv := by
      simp only [List.mem_cons, List.not_mem_nil, or_false] at hx
      rcases hx with rfl | rfl | rfl | rfl | rfl <;> exact ⟨_, rfl⟩
    have a56 : Adv [st] H5 H6 := ap.nil.trans a6
    have hT6 := a56 _ _ (notin1 Ts) hT
    have a46 := a5.trans a56
    clear hx hs5 ap np hT a5 a6
    walk_at "rd"
    have alK : ∀ {H9 : Hp}, Adv [st] H4 H9 → StrAt M H9 st → ∀ b ∈ M, H9 b ≠ none := fun a9 hs9 => alloc_adv hal (a04.trans a9) (by simpa using hs9.here)
    refine ⟨T, _, rfl, .inl ⟨SqL.of hT6, fun t1 n1 => ?_⟩⟩
    have c1 : Adv [] H6 (upd H6 t1 (.tup (nVl ts))) := Adv.new n1
    have t1M : t1 ∉ M := not_mem_new (alK a46 hs6) n1
    have h1 : (upd H6 t1 (.tup (nVl ts))) t1 = some (.tup (nVl ts)) := upd_same
    have hs7 := hs6.same c1
    have a47 := a46.trans c1.nil
    generalize (upd H6 t1 (.tup (nVl ts))) = H7 at c1 h1 hs7 a47
    clear hs6 a46 a56 hT6 c1 n1 Ts
    have notst : ∀ {a : Addr}, a ∉ M → a ∉ [st] := fun {a} h z => h (by rw [List.mem_singleton.mp z]; exact ms)
    walk_at "rd"
    refine sm H7 sv _ hs7 a47 fun D ls H8 hD hl ds nD hs8 a8 => ?_
    have h1 := a8 _ _ (notst t1M) h1
    have a48 := a47.trans a8
    clear hs7 a47 a8 nD ds
    walk_at "rd"
    refine ⟨D, _, rfl, .inl ⟨SqL.of hD, fun t2 n2 => ?_⟩⟩
    have c2 : Adv [] H8 (upd H8 t2 (.tup (nVl ls))) := Adv.new n2
    have t2M : t2 ∉ M := not_mem_new (alK a48 hs8) n2
    have h2 : (upd H8 t2 (.tup (nVl ls))) t2 = some (.tup (nVl ls)) := upd_same
    have hs9 := hs8.same c2
    have a49 := a48.trans c2.nil
    have h1 := c2.same _ _ h1
    generalize (upd H8 t2 (.tup (nVl ls))) = H9 at c2 h1 h2 hs9 a49
    clear hs8 a48 hD c2 n2
    walk_at "rd"
    refine ⟨by show 4 ≤ sizeLine; decide, fun p np => ?_⟩
    have ap : Adv [] H9 (upd H9 p (.tup [.int 0, .int 1, .int 2, .int 3])) := Adv.new np
    walk_at "rd"
    refine ⟨st, p, [.int 0, .int 1, .int 2, .int 3], M, rfl, hs9.same ap, .inr upd_same, fun z => hs9.here (by rw [← z]; exact np), by simp, by simp, fun v H10 hx hs10 a10 => ?_⟩
    obtain ⟨sv2, rfl⟩ : ∃ sv : Int, v = .int sv := by
      simp only [List.mem_cons, List.not_mem_nil, or_false] at hx
      rcases hx with rfl | rfl | rfl | rfl <;> exact ⟨_, rfl⟩
    have a90 : Adv [st] H9 H10 := ap.nil.trans a10
    have h1 := a90 _ _ (notst t1M) h1
    have h2 := a90 _ _ (notst t2M) h2
    have a40 := a49.trans a90
    clear hx hs9 ap np a10 a90 a49
    walk_at "rd"
    refine sm H10 sv2 _ hs10 a40 fun D2 ls2 H11 hD hl2 ds nD hs11 a11 => ?_
    have h1 := a11 _ _ (notst t1M) h1
    have h2 := a11 _ _ (notst t2M) h2
    have a41 := a40.trans a11
    clear hs10 a40 a11 nD ds
    walk_at "rd"
    refine ⟨D2, _, rfl, .inl ⟨SqL.of hD, fun t3 n3 => ?_⟩⟩
    have c3 : Adv [] H11 (upd H11 t3 (.tup (nVl ls2))) := Adv.new n3
    have t3M : t3 ∉ M := not_mem_new (alK a41 hs11) n3
    have h3 : (upd H11 t3 (.tup (nVl ls2))) t3 = some (.tup (nVl ls2)) := upd_same
    have hs12 := hs11.same c3
    have a42 := a41.trans c3.nil
    have h1 := c3.same _ _ h1
    have h2 := c3.same _ _ h2
    generalize (upd H11 t3 (.tup (nVl ls2))) = H12 at c3 h1 h2 h3 hs12 a42
    clear hs11 a41 hD c3 n3
    walk_at "rd"
    refine ⟨by show 4 ≤ sizeLine; decide, fun c nc => ?_⟩
    have cc : Adv [] H12 (upd H12 c (.tup [.ref sh, .ref t1, .ref t2, .ref t3])) := Adv.new nc
    have cM : c ∉ M := not_mem_new (alK a42 hs12) nc
    have a43 := a42.trans cc.nil
    have isN : ∀ {a : Addr} {ls : List Nat}, H12 a = some (.tup (nVl ls)) → a ∉ M → Is M (upd H12 c (.tup [.ref sh, .ref t1, .ref t2, .ref t3])) (.tuple (nD ls)) (.ref a) := fun {a ls} ha hn => Is.tup (cc.same _ _ ha) hn (nD_is _)
    walk_at "rd"
    refine q (.ref c) ns ts ls ls2 _ ?_ (by omega) (by omega) (by omega) (by omega) (hs12.same cc) (a04.trans a43)
    exact Is.tup upd_same cM (IsDs.cons (Is.lst (a43 _ _ (notst shM) hsh4) shM (hrs4.adv (a43.more (by simp [ms])))) (IsDs.cons (isN h1 t1M) (IsDs.cons (isN h2 t2M) (IsDs.cons (isN h3 t3M) IsDs.nil))))
end

set_option Elab.async false
set_option linter.all false
set_option maxRecDepth 100000
set_option maxHeartbeats 4000000
open PySem PySem.Spec PyProof.Rows L2 LL
open C8 (pss_cut)
section
variable [KW]
variable {P : Program} {w : World} {K : PySem.W.Frag} {mg : Str → Option Value} {base : Heap}
/-! ### _law_bent, its later part -/
/-- things of bounded size and depth -/
structure Acc (z k : Nat) (M : List Addr) (H : Hp) (vs : List V) : Prop where
  h : ∀ v ∈ vs, ∃ d, Is M H d v ∧ sz d ≤ z ∧ dep d ≤ k
theorem Acc.adv {z k : Nat} {M : List Addr} {H H' : Hp} {vs : List V} (x : Acc z k M H vs) (a : Adv M H H') : Acc z k M H' vs := ⟨fun v hv => let ⟨d, h, p⟩ := x.h v hv; ⟨d, h.adv a, p⟩⟩
theorem Acc.nil {z k : Nat} {M : List Addr} {H : Hp} : Acc z k M H [] := ⟨fun v hv => absurd hv (by simp)⟩
theorem Acc.snoc {z k : Nat} {M : List Addr} {H : Hp} {vs : List V} {v : V} {d : PyData} (x : Acc z k M H vs) (h : Is M H d v) (h1 : sz d ≤ z) (h2 : dep d ≤ k) : Acc z k M H (vs ++ [v]) := ⟨fun u hu => by
  rcases List.mem_append.mp hu with hu | hu
  · exact x.h u hu
  · rw [List.mem_singleton.mp hu]
    exact ⟨d, h, h1, h2⟩⟩
/-- the parts of a claim -/
structure ClF (M : List Addr) (H : Hp) (cl sh : Addr) (u1 u2 u3 : V) (rs : List V) (ds : List PyData) (e1 e2 e3 : PyData) : Prop where
  T : Tp M H cl [.ref sh, u1, u2, u3]
  hsh : H sh = some (.lst rs)
  shM : sh ∉ M
  rd : IsDs M H ds rs
  i1 : Is M H e1 u1
  i2 : Is M H e2 u2
  i3 : Is M H e3 u3
section
variable {M : List Addr} {H H' : Hp} {cl sh p : Addr} {u1 u2 u3 : V} {rs : List V} {ds : List PyData} {e1 e2 e3 : PyData}
theorem ClF.adv (x : ClF M H cl sh u1 u2 u3 rs ds e1 e2 e3) (a : Adv M H H') : ClF M H' cl sh u1 u2 u3 rs ds e1 e2 e3 := ⟨x.T.adv a, a _ _ x.shM x.hsh, x.shM, x.rd.adv a, x.i1.adv a, x.i2.adv a, x.i3.adv a⟩
theorem ClF.fresh (x : ClF M H cl sh u1 u2 u3 rs ds e1 e2 e3) (h : H p = none) : ClF (p :: M) H cl sh u1 u2 u3 rs ds e1 e2 e3 :=
  ⟨x.T.fresh h, x.hsh, fun z => (List.mem_cons.mp z).elim (ne_of_none x.hsh h) x.shM, x.rd.fresh h, x.i1.fresh h, x.i2.fresh h, x.i3.fresh h⟩
end
theorem ClF.less {M N : List Addr} {H : Hp} {cl sh : Addr} {u1 u2 u3 : V} {rs : List V} {ds : List PyData} {e1 e2 e3 : PyData} (x : ClF M H cl sh u1 u2 u3 rs ds e1 e2 e3) (h : ∀ b ∈ N, b ∈ M) : ClF N H cl sh u1 u2 u3 rs ds e1 e2 e3 :=
  ⟨x.T.less h, x.hsh, fun z => x.shM (h _ z), x.rd.less h, x.i1.less h, x.i2.less h, x.i3.less h⟩
theorem szL_set : ∀ (l : List PyData) (i : Nat) (d : PyData), szL (l.set i d) ≤ szL l + sz d
  | [], _, _ => by simp [szL_nil]
  | a :: l, 0, d => by rw [List.set_cons_zero, szL_cons, szL_cons]; omega
  | a :: l, i + 1, d => by
    have := szL_set l i d
    rw [List.set_cons_succ, szL_cons, szL_cons]; omega
theorem depL_set : ∀ (l : List PyData) (i : Nat) (d : PyData), depL (l.set i d) ≤ max (depL l) (dep d)
  | [], _, _ => by simp [depL_nil]
  | a :: l, 0, d => by rw [List.set_cons_zero, depL_cons, depL_cons]; omega
  | a :: l, i + 1, d => by
    have := depL_set l i d
    rw [List.set_cons_succ, depL_cons, depL_cons]; omega
theorem szL_app : ∀ a b : List PyData, szL (a ++ b) = szL a + szL b
  | [], b => by simp [szL_nil]
  | x :: a, b => by rw [List.cons_append, szL_cons, szL_cons, szL_app a b]; omega
theorem depL_app : ∀ a b : List PyData, depL (a ++ b) = max (depL a) (depL b)
  | [], b => by simp [depL_nil]
  | x :: a, b => by rw [List.cons_append, depL_cons, depL_cons, depL_app a b]; omega
structure BntW (M : List Addr) (st : Addr) (H0 : Hp) (Z D : Nat) (σ' : L2.St) (H' : Hp) : Prop where
  ex : ∃ (cl sh B : Addr) (u1 u2 u3 : V) (y3 y4 y5 y6 y7 : Option V) (rs : List V) (ds : List PyData) (dB e1 e2 e3 : PyData), σ' = [some (.ref st), some (.ref cl), some (.ref sh), y3, y4, y5, y6, y7, some (.ref B), none] ∧ ClF M H' cl sh u1 u2 u3 rs ds e1 e2 e3 ∧ Is M H' dB (.ref B) ∧ rs.length ≤ 3000 ∧ szL [.list ds, e1, e2, e3] ≤ Z ∧ depL [.list ds, e1, e2, e3] ≤ D ∧ 2 ≤ D ∧ sz dB ≤ sz (.list ds) + 20 ∧ dep dB ≤ D ∧ st ∈ M ∧ (∀ b ∈ M, H' b ≠ none) ∧ StrAt M H' st ∧ Adv [st] H0 H'
theorem bent3 (A : All K mg w) {cdv : Value} {Ar : Around} {outer : List Env} {s : Shared} {H : Hp} {E : XK} (hr : Room 2 (Ar.deeper (envOfC "_law_bent" (defScope s_law_bent) s.heap.objs.size A.law_bent.f cdv))) :
    ∃ t, PSs (cxOf CX0 P w K mg base ["stream", "claim", "sheet", "many", "k", "rows", "at", "odd", "bent", "whole"] "_law_bent" (defScope s_law_bent) A.law_bent.f cdv Ar outer s H E).nox ((defBody s_law_bent).drop 9) t ∧
      ∀ (Q : VK) (M : List Addr) (st : Addr) (H0 : Hp) (Z D : Nat) (σ' : L2.St) (Hc : Hp), BntW M st H0 Z D σ' Hc → (∀ v d H', Is M H' d v → sz d ≤ 3 * Z + 4000 → dep d ≤ D + 2 → StrAt M H' st → Adv [st] H0 H' → Q v H') → t { nx := fun _ H' => Q .non H', rt := Q } σ' Hc := by
  refine ⟨_, (pss_cons (ps_set (i := 9) sc_law_bent.nd rfl (Or.inl rfl) (pe_lst (pa_cons (pe_op op_catA (pe_tup (pa_cons (pv 8) pa_nil)) (pe_slice sl_tupA (pv 1) (po_some pe_int) po_none)) (pa_cons (pe_op op_catA (pe_tup (pa_cons (pv 8) pa_nil)) (pe_slice sl_tupA (pv 1) (po_some pe_int) po_none)) (pa_cons (pe_op op_catA (pe_tup (pa_cons (pe_callTy call_tuple_of (by rfl) A.T.tuple (by decide +kernel) (pa_cons (pv 2) pa_nil)) pa_nil)) (pe_slice sl_tupA (pv 1) (po_some pe_int) po_none)) (pa_cons (pe_op op_catA (pe_tup (pa_cons pe_non pa_nil)) (pe_slice sl_tupA (pv 1) (po_some pe_int) po_none)) (pa_cons (pe_callTy call_list_of (by rfl) A.T.list (by decide +kernel) (pa_cons (pv 1) pa_nil)) (pa_cons (pe_slice sl_tupA (pv 1) po_none (po_some pe_int)) (pa_cons (pe_op op_catA (pv 1) (pe_tup (pa_cons (pe_tup pa_nil) pa_nil))) (pa_cons pe_non (pa_cons (pe_tup pa_nil) (pa_cons (pv 2) (pa_cons pe_str (pa_cons pe_dnewK pa_nil))))))))))))))
  (pss_one (ps_ret (pe_call (ok_law_pick A) (hr.mono (by omega)) rfl A.law_pick.m A.law_pick.F.kp A.law_pick.b .nil pass0 (pa_cons (pv 0) (pa_cons (pv 9) pa_nil)))))), ?_⟩
  rintro Q M st H0 Z D σ' Hc ⟨⟨cl, sh, B, u1, u2, u3, y3, y4, y5, y6, y7, rs, ds, dB, e1, e2, e3, rfl, C, Ib, hrl, hZ, hD, D2, zB, kB, ms, al, hs, A0⟩⟩ q
  have F : Acc (Z + 100) (D + 1) M Hc [] := Acc.nil
  simp only [szL_cons, szL_nil, sz_lst] at hZ zB
  simp only [depL_cons, depL_nil, dep_lst] at hD
  have hsz : ∀ d : PyData, 1 ≤ sz d := sz_pos
  walk_at "rd"
  refine ⟨by show 1 ≤ sizeLine; decide, fun a0 nx => ?_⟩
  have ax : Adv [] Hc (upd Hc a0 (.tup [.ref B])) := Adv.new nx
  have ha0 : (upd Hc a0 (.tup [.ref B])) a0 = some (.tup [.ref B]) := upd_same
  have a0M : a0 ∉ M := not_mem_new al nx
  have a0s : a0 ≠ st := fun z => hs.here (by rw [← z]; exact nx)
  replace C := C.adv (Adv.nil ax)
  replace Ib := Ib.adv (Adv.nil ax)
  replace al := alloc_adv al ax (by simp)
  replace hs := hs.same ax
  replace A0 := A0.trans (Adv.nil ax)
  replace F := F.adv (Adv.nil ax)
  generalize (upd Hc a0 (.tup [.ref B])) = G1 at ax ha0 C Ib al hs A0 F
  clear ax nx
  have sq := C.T.sq A.W
  walk_at "rd"
  refine ⟨cl, _, rfl, sq, fun hw => absurd hw (by show ¬ (HT.sIx 4 0 (some 1) = 0 ∧ HT.sIx 4 4 (none) = 4); decide), fun _ b0 nx => ?_⟩
  have ec : cutV [V.ref sh, u1, u2, u3] (some 1) (none) = [u1, u2, u3] := rfl
  rw [ec]
  clear sq ec
  have ax : Adv [] G1 (upd G1 b0 (.tup [u1, u2, u3])) := Adv.new nx
  have hb0 : (upd G1 b0 (.tup [u1, u2, u3])) b0 = some (.tup [u1, u2, u3]) := upd_same
  have b0M : b0 ∉ M := not_mem_new al nx
  have b0s : b0 ≠ st := fun z => hs.here (by rw [← z]; exact nx)
  replace C := C.adv (Adv.nil ax)
  replace Ib := Ib.adv (Adv.nil ax)
  replace al := alloc_adv al ax (by simp)
  replace hs := hs.same ax
  replace A0 := A0.trans (Adv.nil ax)
  replace F := F.adv (Adv.nil ax)
  replace ha0 := Adv.same ax _ _ ha0
  generalize (upd G1 b0 (.tup [u1, u2, u3])) = G2 at ax hb0 C Ib al hs A0 F ha0
  clear ax nx
  walk_at "rd"
  refine rd_catM A.W al (Tp.of ha0 a0M) (Tp.of hb0 b0M) (by simp [sizeLine_eq]) fun c0 G3 tc0 ax => ?_
  replace C := C.adv (Adv.nil ax)
  replace Ib := Ib.adv (Adv.nil ax)
  replace al := alloc_adv al ax (by simp)
  replace hs := hs.same ax
  replace A0 := A0.trans (Adv.nil ax)
  replace F := F.adv (Adv.nil ax)
  replace ha0 := Adv.same ax _ _ ha0
  replace hb0 := Adv.same ax _ _ hb0
  clear ax
  replace F := F.snoc (v := .ref c0) (d := .tuple [dB, e1, e2, e3]) (Is.tp tc0 (IsDs.cons Ib (IsDs.cons C.i1 (IsDs.cons C.i2 (IsDs.cons C.i3 IsDs.nil))))) (by simp only [sz_tup, sz_lst, szL_cons, szL_nil, sz1_none, sz1_str, sz1_dict]; omega) (by simp only [dep_tup, dep_lst, depL_cons, depL_nil, dep1_none, dep1_str, dep1_dict]; omega)
  clear tc0 ha0 hb0
  walk_at "rd"
  refine ⟨by show 1 ≤ sizeLine; decide, fun a1 nx => ?_⟩
  have ax : Adv [] G3 (upd G3 a1 (.tup [.ref B])) := Adv.new nx
  have ha1 : (upd G3 a1 (.tup [.ref B])) a1 = some (.tup [.ref B]) := upd_same
  have a1M : a1 ∉ M := not_mem_new al nx
  have a1s : a1 ≠ st := fun z => hs.here (by rw [← z]; exact nx)
  replace C := C.adv (Adv.nil ax)
  replace Ib := Ib.adv (Adv.nil ax)
  replace al := alloc_adv al ax (by simp)
  replace hs := hs.same ax
  replace A0 := A0.trans (Adv.nil ax)
  replace F := F.adv (Adv.nil ax)
  generalize (upd G3 a1 (.tup [.ref B])) = G4 at ax ha1 C Ib al hs A0 F
  clear ax nx
  have sq := C.T.sq A.W
  walk_at "rd"
  refine ⟨cl, _, rfl, sq, fun hw => absurd hw (by show ¬ (HT.sIx 4 0 (some 1) = 0 ∧ HT.sIx 4 4 (none) = 4); decide), fun _ b1 nx => ?_⟩
  have ec : cutV [V.ref sh, u1, u2, u3] (some 1) (none) = [u1, u2, u3] := rfl
  rw [ec]
  clear sq ec
  have ax : Adv [] G4 (upd G4 b1 (.tup [u1, u2, u3])) := Adv.new nx
  have hb1 : (upd G4 b1 (.tup [u1, u2, u3])) b1 = some (.tup [u1, u2, u3]) := upd_same
  have b1M : b1 ∉ M := not_mem_new al nx
  have b1s : b1 ≠ st := fun z => hs.here (by rw [← z]; exact nx)
  replace C := C.adv (Adv.nil ax)
  replace Ib := Ib.adv (Adv.nil ax)
  replace al := alloc_adv al ax (by simp)
  replace hs := hs.same ax
  replace A0 := A0.trans (Adv.nil ax)
  replace F := F.adv (Adv.nil ax)
  replace ha1 := Adv.same ax _ _ ha1
  generalize (upd G4 b1 (.tup [u1, u2, u3])) = G5 at ax hb1 C Ib al hs A0 F ha1
  clear ax nx
  walk_at "rd"
  refine rd_catM A.W al (Tp.of ha1 a1M) (Tp.of hb1 b1M) (by simp [sizeLine_eq]) fun c1 G6 tc1 ax => ?_
  replace C := C.adv (Adv.nil ax)
  replace Ib := Ib.adv (Adv.nil ax)
  replace al := alloc_adv al ax (by simp)
  replace hs := hs.same ax
  replace A0 := A0.trans (Adv.nil ax)
  replace F := F.adv (Adv.nil ax)
  replace ha1 := Adv.same ax _ _ ha1
  replace hb1 := Adv.same ax _ _ hb1
  clear ax
  replace F := F.snoc (v := .ref c1) (d := .tuple [dB, e1, e2, e3]) (Is.tp tc1 (IsDs.cons Ib (IsDs.cons C.i1 (IsDs.cons C.i2 (IsDs.cons C.i3 IsDs.nil))))) (by simp only [sz_tup, sz_lst, szL_cons, szL_nil, sz1_none, sz1_str, sz1_dict]; omega) (by simp only [dep_tup, dep_lst, depL_cons, depL_nil, dep1_none, dep1_str, dep1_dict]; omega)
  clear tc1 ha1 hb1
  walk_at "rd"
  have sqs := C.hsh
  walk_at "rd"
  refine ⟨sh, _, rfl, .inl ⟨SqL.of sqs, fun T nx => ?_⟩⟩
  clear sqs
  have ax : Adv [] G6 (upd G6 T (.tup rs)) := Adv.new nx
  have hT : (upd G6 T (.tup rs)) T = some (.tup rs) := upd_same
  have TM : T ∉ M := not_mem_new al nx
  have Ts : T ≠ st := fun z => hs.here (by rw [← z]; exact nx)
  replace C := C.adv (Adv.nil ax)
  replace Ib := Ib.adv (Adv.nil ax)
  replace al := alloc_adv al ax (by simp)
  replace hs := hs.same ax
  replace A0 := A0.trans (Adv.nil ax)
  replace F := F.adv (Adv.nil ax)
  generalize (upd G6 T (.tup rs)) = G7 at ax hT C Ib al hs A0 F
  clear ax nx
  walk_at "rd"
  refine ⟨by show 1 ≤ sizeLine; decide, fun a2 nx => ?_⟩
  have ax : Adv [] G7 (upd G7 a2 (.tup [.ref T])) := Adv.new nx
  have ha2 : (upd G7 a2 (.tup [.ref T])) a2 = some (.tup [.ref T]) := upd_same
  have a2M : a2 ∉ M := not_mem_new al nx
  have a2s : a2 ≠ st := fun z => hs.here (by rw [← z]; exact nx)
  replace C := C.adv (Adv.nil ax)
  replace Ib := Ib.adv (Adv.nil ax)
  replace al := alloc_adv al ax (by simp)
  replace hs := hs.same ax
  replace A0 := A0.trans (Adv.nil ax)
  replace F := F.adv (Adv.nil ax)
  replace hT := Adv.same ax _ _ hT
  generalize (upd G7 a2 (.tup [.ref T])) = G8 at ax ha2 C Ib al hs A0 F hT
  clear ax nx
  have sq := C.T.sq A.W
  walk_at "rd"
  refine ⟨cl, _, rfl, sq, fun hw => absurd hw (by show ¬ (HT.sIx 4 0 (some 1) = 0 ∧ HT.sIx 4 4 (none) = 4); decide), fun _ b2 nx => ?_⟩
  have ec : cutV [V.ref sh, u1, u2, u3] (some 1) (none) = [u1, u2, u3] := rfl
  rw [ec]
  clear sq ec
  have ax : Adv [] G8 (upd G8 b2 (.tup [u1, u2, u3])) := Adv.new nx
  have hb2 : (upd G8 b2 (.tup [u1, u2, u3])) b2 = some (.tup [u1, u2, u3]) := upd_same
  have b2M : b2 ∉ M := not_mem_new al nx
  have b2s : b2 ≠ st := fun z => hs.here (by rw [← z]; exact nx)
  replace C := C.adv (Adv.nil ax)
  replace Ib := Ib.adv (Adv.nil ax)
  replace al := alloc_adv al ax (by simp)
  replace hs := hs.same ax
  replace A0 := A0.trans (Adv.nil ax)
  replace F := F.adv (Adv.nil ax)
  replace hT := Adv.same ax _ _ hT
  replace ha2 := Adv.same ax _ _ ha2
  generalize (upd G8 b2 (.tup [u1, u2, u3])) = G9 at ax hb2 C Ib al hs A0 F hT ha2
  clear ax nx
  walk_at "rd"
  refine rd_catM A.W al (Tp.of ha2 a2M) (Tp.of hb2 b2M) (by simp [sizeLine_eq]) fun c2 G10 tc2 ax => ?_
  replace C := C.adv (Adv.nil ax)
  replace Ib := Ib.adv (Adv.nil ax)
  replace al := alloc_adv al ax (by simp)
  replace hs := hs.same ax
  replace A0 := A0.trans (Adv.nil ax)
  replace F := F.adv (Adv.nil ax)
  replace hT := Adv.same ax _ _ hT
  replace ha2 := Adv.same ax _ _ ha2
  replace hb2 := Adv.same ax _ _ hb2
  clear ax
  replace F := F.snoc (v := .ref c2) (d := .tuple [.tuple ds, e1, e2, e3]) (Is.tp tc2 (IsDs.cons (Is.tup hT TM C.rd) (IsDs.cons C.i1 (IsDs.cons C.i2 (IsDs.cons C.i3 IsDs.nil))))) (by simp only [sz_tup, sz_lst, szL_cons, szL_nil, sz1_none, sz1_str, sz1_dict]; omega) (by simp only [dep_tup, dep_lst, depL_cons, depL_nil, dep1_none, dep1_str, dep1_dict]; omega)
  clear tc2 ha2 hb2 hT
  walk_at "rd"
  refine ⟨by show 1 ≤ sizeLine; decide, fun a3 nx => ?_⟩
  have ax : Adv [] G10 (upd G10 a3 (.tup [.non])) := Adv.new nx
  have ha3 : (upd G10 a3 (.tup [.non])) a3 = some (.tup [.non]) := upd_same
  have a3M : a3 ∉ M := not_mem_new al nx
  have a3s : a3 ≠ st := fun z => hs.here (by rw [← z]; exact nx)
  replace C := C.adv (Adv.nil ax)
  replace Ib := Ib.adv (Adv.nil ax)
  replace al := alloc_adv al ax (by simp)
  replace hs := hs.same ax
  replace A0 := A0.trans (Adv.nil ax)
  replace F := F.adv (Adv.nil ax)
  generalize (upd G10 a3 (.tup [.non])) = G11 at ax ha3 C Ib al hs A0 F
  clear ax nx
  have sq := C.T.sq A.W
  walk_at "rd"
  refine ⟨cl, _, rfl, sq, fun hw => absurd hw (by show ¬ (HT.sIx 4 0 (some 1) = 0 ∧ HT.sIx 4 4 (none) = 4); decide), fun _ b3 nx => ?_⟩
  have ec : cutV [V.ref sh, u1, u2, u3] (some 1) (none) = [u1, u2, u3] := rfl
  rw [ec]
  clear sq ec
  have ax : Adv [] G11 (upd G11 b3 (.tup [u1, u2, u3])) := Adv.new nx
  have hb3 : (upd G11 b3 (.tup [u1, u2, u3])) b3 = some (.tup [u1, u2, u3]) := upd_same
  have b3M : b3 ∉ M := not_mem_new al nx
  have b3s : b3 ≠ st := fun z => hs.here (by rw [← z]; exact nx)
  replace C := C.adv (Adv.nil ax)
  replace Ib := Ib.adv (Adv.nil ax)
  replace al := alloc_adv al ax (by simp)
  replace hs := hs.same ax
  replace A0 := A0.trans (Adv.nil ax)
  replace F := F.adv (Adv.nil ax)
  replace ha3 := Adv.same ax _ _ ha3
  generalize (upd G11 b3 (.tup [u1, u2, u3])) = G12 at ax hb3 C Ib al hs A0 F ha3
  clear ax nx
  walk_at "rd"
  refine rd_catM A.W al (Tp.of ha3 a3M) (Tp.of hb3 b3M) (by simp [sizeLine_eq]) fun c3 G13 tc3 ax => ?_
  replace C := C.adv (Adv.nil ax)
  replace Ib := Ib.adv (Adv.nil ax)
  replace al := alloc_adv al ax (by simp)
  replace hs := hs.same ax
  replace A0 := A0.trans (Adv.nil ax)
  replace F := F.adv (Adv.nil ax)
  replace ha3 := Adv.same ax _ _ ha3
  replace hb3 := Adv.same ax _ _ hb3
  clear ax
  replace F := F.snoc (v := .ref c3) (d := .tuple [.none, e1, e2, e3]) (Is.tp tc3 (IsDs.cons Is.non (IsDs.cons C.i1 (IsDs.cons C.i2 (IsDs.cons C.i3 IsDs.nil))))) (by simp only [sz_tup, sz_lst, szL_cons, szL_nil, sz1_none, sz1_str, sz1_dict]; omega) (by simp only [dep_tup, dep_lst, depL_cons, depL_nil, dep1_none, dep1_str, dep1_dict]; omega)
  clear tc3 ha3 hb3
  walk_at "rd"
  have sq := C.T.sq A.W
  refine ⟨cl, _, rfl, .inr sq, fun l nx => ?_⟩
  clear sq
  have ax : Adv [] G13 (upd G13 l (.lst [.ref sh, u1, u2, u3])) := Adv.new nx
  have hl : (upd G13 l (.lst [.ref sh, u1, u2, u3])) l = some (.lst [.ref sh, u1, u2, u3]) := upd_same
  have lM : l ∉ M := not_mem_new al nx
  have ls : l ≠ st := fun z => hs.here (by rw [← z]; exact nx)
  replace C := C.adv (Adv.nil ax)
  replace Ib := Ib.adv (Adv.nil ax)
  replace al := alloc_adv al ax (by simp)
  replace hs := hs.same ax
  replace A0 := A0.trans (Adv.nil ax)
  replace F := F.adv (Adv.nil ax)
  generalize (upd G13 l (.lst [.ref sh, u1, u2, u3])) = G14 at ax hl C Ib al hs A0 F
  clear ax nx
  replace F := F.snoc (v := .ref l) (d := .list [.list ds, e1, e2, e3]) (Is.lst hl lM (IsDs.cons (Is.lst C.hsh C.shM C.rd) (IsDs.cons C.i1 (IsDs.cons C.i2 (IsDs.cons C.i3 IsDs.nil))))) (by simp only [sz_tup, sz_lst, szL_cons, szL_nil, sz1_none, sz1_str, sz1_dict]; omega) (by simp only [dep_tup, dep_lst, depL_cons, depL_nil, dep1_none, dep1_str, dep1_dict]; omega)
  clear hl
  have sq := C.T.sq A.W
  walk_at "rd"
  refine ⟨cl, _, rfl, sq, fun hw => absurd hw (by show ¬ (HT.sIx 4 0 (none) = 0 ∧ HT.sIx 4 4 (some 3) = 4); decide), fun _ b4 nx => ?_⟩
  have ec : cutV [V.ref sh, u1, u2, u3] (none) (some 3) = [.ref sh, u1, u2] := rfl
  rw [ec]
  clear sq ec
  have ax : Adv [] G14 (upd G14 b4 (.tup [.ref sh, u1, u2])) := Adv.new nx
  have hb4 : (upd G14 b4 (.tup [.ref sh, u1, u2])) b4 = some (.tup [.ref sh, u1, u2]) := upd_same
  have b4M : b4 ∉ M := not_mem_new al nx
  have b4s : b4 ≠ st := fun z => hs.here (by rw [← z]; exact nx)
  replace C := C.adv (Adv.nil ax)
  replace Ib := Ib.adv (Adv.nil ax)
  replace al := alloc_adv al ax (by simp)
  replace hs := hs.same ax
  replace A0 := A0.trans (Adv.nil ax)
  replace F := F.adv (Adv.nil ax)
  generalize (upd G14 b4 (.tup [.ref sh, u1, u2])) = G15 at ax hb4 C Ib al hs A0 F
  clear ax nx
  replace F := F.snoc (v := .ref b4) (d := .tuple [.list ds, e1, e2]) (Is.tup hb4 b4M (IsDs.cons (Is.lst C.hsh C.shM C.rd) (IsDs.cons C.i1 (IsDs.cons C.i2 IsDs.nil)))) (by simp only [sz_tup, sz_lst, szL_cons, szL_nil, sz1_none, sz1_str, sz1_dict]; omega) (by simp only [dep_tup, dep_lst, depL_cons, depL_nil, dep1_none, dep1_str, dep1_dict]; omega)
  clear hb4
  walk_at "rd"
  refine ⟨Nat.zero_le _, fun t0 nx => ?_⟩
  have ax : Adv [] G15 (upd G15 t0 (.tup [])) := Adv.new nx
  have ht0 : (upd G15 t0 (.tup [])) t0 = some (.tup []) := upd_same
  have t0M : t0 ∉ M := not_mem_new al nx
  have t0s : t0 ≠ st := fun z => hs.here (by rw [← z]; exact nx)
  replace C := C.adv (Adv.nil ax)
  replace Ib := Ib.adv (Adv.nil ax)
  replace al := alloc_adv al ax (by simp)
  replace hs := hs.same ax
  replace A0 := A0.trans (Adv.nil ax)
  replace F := F.adv (Adv.nil ax)
  generalize (upd G15 t0 (.tup [])) = G16 at ax ht0 C Ib al hs A0 F
  clear ax nx
  walk_at "rd"
  refine ⟨by show 1 ≤ sizeLine; decide, fun t1 nx => ?_⟩
  have ax : Adv [] G16 (upd G16 t1 (.tup [.ref t0])) := Adv.new nx
  have ht1 : (upd G16 t1 (.tup [.ref t0])) t1 = some (.tup [.ref t0]) := upd_same
  have t1M : t1 ∉ M := not_mem_new al nx
  have t1s : t1 ≠ st := fun z => hs.here (by rw [← z]; exact nx)
  replace C := C.adv (Adv.nil ax)
  replace Ib := Ib.adv (Adv.nil ax)
  replace al := alloc_adv al ax (by simp)
  replace hs := hs.same ax
  replace A0 := A0.trans (Adv.nil ax)
  replace F := F.adv (Adv.nil ax)
  replace ht0 := Adv.same ax _ _ ht0
  generalize (upd G16 t1 (.tup [.ref t0])) = G17 at ax ht1 C Ib al hs A0 F ht0
  clear ax nx
  walk_at "rd"
  refine rd_catM A.W al C.T (Tp.of ht1 t1M) (by simp [sizeLine_eq]) fun c5 G18 tc5 ax => ?_
  replace C := C.adv (Adv.nil ax)
  replace Ib := Ib.adv (Adv.nil ax)
  replace al := alloc_adv al ax (by simp)
  replace hs := hs.same ax
  replace A0 := A0.trans (Adv.nil ax)
  replace F := F.adv (Adv.nil ax)
  replace ht0 := Adv.same ax _ _ ht0
  replace ht1 := Adv.same ax _ _ ht1
  clear ax
  replace F := F.snoc (v := .ref c5) (d := .tuple [.list ds, e1, e2, e3, .tuple []]) (Is.tp tc5 (IsDs.cons (Is.lst C.hsh C.shM C.rd) (IsDs.cons C.i1 (IsDs.cons C.i2 (IsDs.cons C.i3 (IsDs.cons (Is.tup ht0 t0M IsDs.nil) IsDs.nil)))))) (by simp only [sz_tup, sz_lst, szL_cons, szL_nil, sz1_none, sz1_str, sz1_dict]; omega) (by simp only [dep_tup, dep_lst, depL_cons, depL_nil, dep1_none, dep1_str, dep1_dict]; omega)
  clear tc5 ht0 ht1
  walk_at "rd"
  replace F := F.snoc (v := .non) (d := .none) (Is.non) (by simp only [sz_tup, sz_lst, szL_cons, szL_nil, sz1_none, sz1_str, sz1_dict]; omega) (by simp only [dep_tup, dep_lst, depL_cons, depL_nil, dep1_none, dep1_str, dep1_dict]; omega)
  refine ⟨Nat.zero_le _, fun t2 nx => ?_⟩
  have ax : Adv [] G18 (upd G18 t2 (.tup [])) := Adv.new nx
  have ht2 : (upd G18 t2 (.tup [])) t2 = some (.tup []) := upd_same
  have t2M : t2 ∉ M := not_mem_new al nx
  have t2s : t2 ≠ st := fun z => hs.here (by rw [← z]; exact nx)
  replace C := C.adv (Adv.nil ax)
  replace Ib := Ib.adv (Adv.nil ax)
  replace al := alloc_adv al ax (by simp)
  replace hs := hs.same ax
  replace A0 := A0.trans (Adv.nil ax)
  replace F := F.adv (Adv.nil ax)
  generalize (upd G18 t2 (.tup [])) = G19 at ax ht2 C Ib al hs A0 F
  clear ax nx
  replace F := F.snoc (v := .ref t2) (d := .tuple []) (Is.tup ht2 t2M IsDs.nil) (by simp only [sz_tup, sz_lst, szL_cons, szL_nil, sz1_none, sz1_str, sz1_dict]; omega) (by simp only [dep_tup, dep_lst, depL_cons, depL_nil, dep1_none, dep1_str, dep1_dict]; omega)
  clear ht2
  walk_at "rd"
  replace F := F.snoc (v := .ref sh) (d := .list ds) (Is.lst C.hsh C.shM C.rd) (by simp only [sz_tup, sz_lst, szL_cons, szL_nil, sz1_none, sz1_str, sz1_dict]; omega) (by simp only [dep_tup, dep_lst, depL_cons, depL_nil, dep1_none, dep1_str, dep1_dict]; omega)
  replace F := F.snoc (v := .str "claim") (d := .str "claim") (Is.str) (by simp only [sz_tup, sz_lst, szL_cons, szL_nil, sz1_none, sz1_str, sz1_dict]; omega) (by simp only [dep_tup, dep_lst, depL_cons, depL_nil, dep1_none, dep1_str, dep1_dict]; omega)
  intro dk nx
  have ax : Adv [] G19 (upd G19 dk (.dK [])) := Adv.new nx
  have hdk : (upd G19 dk (.dK [])) dk = some (.dK []) := upd_same
  have dkM : dk ∉ M := not_mem_new al nx
  have dks : dk ≠ st := fun z => hs.here (by rw [← z]; exact nx)
  replace C := C.adv (Adv.nil ax)
  replace Ib := Ib.adv (Adv.nil ax)
  replace al := alloc_adv al ax (by simp)
  replace hs := hs.same ax
  replace A0 := A0.trans (Adv.nil ax)
  replace F := F.adv (Adv.nil ax)
  generalize (upd G19 dk (.dK [])) = G20 at ax hdk C Ib al hs A0 F
  clear ax nx
  replace F := F.snoc (v := .ref dk) (d := .dict []) (Is.dic hdk dkM) (by simp only [sz_tup, sz_lst, szL_cons, szL_nil, sz1_none, sz1_str, sz1_dict]; omega) (by simp only [dep_tup, dep_lst, depL_cons, depL_nil, dep1_none, dep1_str, dep1_dict]; omega)
  clear hdk
  walk_at "rd"
  refine ⟨by show 12 ≤ sizeLine; decide, fun wh nx => ?_⟩
  have ax : Adv [] G20 (upd G20 wh (.lst [.ref c0, .ref c1, .ref c2, .ref c3, .ref l, .ref b4, .ref c5, .non, .ref t2, .ref sh, .str "claim", .ref dk])) := Adv.new nx
  have hwh : (upd G20 wh (.lst [.ref c0, .ref c1, .ref c2, .ref c3, .ref l, .ref b4, .ref c5, .non, .ref t2, .ref sh, .str "claim", .ref dk])) wh = some (.lst [.ref c0, .ref c1, .ref c2, .ref c3, .ref l, .ref b4, .ref c5, .non, .ref t2, .ref sh, .str "claim", .ref dk]) := upd_same
  have whM : wh ∉ M := not_mem_new al nx
  have whs : wh ≠ st := fun z => hs.here (by rw [← z]; exact nx)
  replace C := C.adv (Adv.nil ax)
  replace Ib := Ib.adv (Adv.nil ax)
  replace al := alloc_adv al ax (by simp)
  replace hs := hs.same ax
  replace A0 := A0.trans (Adv.nil ax)
  replace F := F.adv (Adv.nil ax)
  generalize (upd G20 wh (.lst [.ref c0, .ref c1, .ref c2, .ref c3, .ref l, .ref b4, .ref c5, .non, .ref t2, .ref sh, .str "claim", .ref dk])) = G21 at ax hwh C Ib al hs A0 F
  clear ax nx
  walk_at "rd"
  refine ⟨st, wh, [.ref c0, .ref c1, .ref c2, .ref c3, .ref l, .ref b4, .ref c5, .non, .ref t2, .ref sh, .str "claim", .ref dk], M, rfl, hs, .inl hwh, whs, by simp, by simp, fun x G22 hx hs_ ax => ?_⟩
  obtain ⟨dx, ix, zx, kx⟩ := F.h x (by simpa using hx)
  clear hx F hwh
  replace C := C.adv (ax.more fun b hb => by rw [List.mem_singleton.mp hb]; exact ms)
  replace Ib := Ib.adv (ax.more fun b hb => by rw [List.mem_singleton.mp hb]; exact ms)
  replace al := alloc_adv al ax (by simpa using hs_.here)
  replace hs := hs_
  replace A0 := A0.trans ax
  replace ix := ix.adv (ax.more fun b hb => by rw [List.mem_singleton.mp hb]; exact ms)
  clear ax hs_
  walk_at "rd"
  exact q x dx _ ix (by omega) (by omega) hs A0
end

set_option Elab.async false
set_option linter.all false
set_option maxRecDepth 100000
set_option maxHeartbeats 4000000
open PySem PySem.Spec PyProof.Rows L2 LL
open C8 (pss_cut)
section
variable [KW]
variable {P : Program} {w : World} {K : PySem.W.Frag} {mg : Str → Option Value} {base : Heap}
structure BntM (M : List Addr) (st : Addr) (H0 : Hp) (Z D : Nat) (σ' : L2.St) (H' : Hp) : Prop where
  ex : ∃ (cl sh od : Addr) (u1 u2 u3 vr : V) (rs os : List V) (ds : List PyData) (e1 e2 e3 : PyData) (k at_ : Nat), σ' = [some (.ref st), some (.ref cl), some (.ref sh), some (.int (rs.length : Nat)), some (.int (k : Nat)), some vr, some (.int (at_ : Nat)), some (.ref od), none, none] ∧ 1 ≤ k ∧ k ≤ 3 ∧ at_ ≤ rs.length ∧ rs.length ≤ 3000 ∧ ClF M H' cl sh u1 u2 u3 rs ds e1 e2 e3 ∧ szL [.list ds, e1, e2, e3] ≤ Z ∧ depL [.list ds, e1, e2, e3] ≤ D ∧ 2 ≤ D ∧ H' od = some (.lst os) ∧ od ≠ st ∧ os ≠ [] ∧ os.length ≤ 30 ∧ Acc (2 * Z + 3100) (D + 1) M H' os ∧ st ∈ M ∧ (∀ b ∈ M, H' b ≠ none) ∧ StrAt M H' st ∧ Adv [st] H0 H'
theorem bent2 (A : All K mg w) {cdv : Value} {Ar : Around} {outer : List Env} {s : Shared} {H : Hp} {E : XK} (hr : Room 2 (Ar.deeper (envOfC "_law_bent" (defScope s_law_bent) s.heap.objs.size A.law_bent.f cdv))) :
    ∃ t, PSs (cxOf CX0 P w K mg base ["stream", "claim", "sheet", "many", "k", "rows", "at", "odd", "bent", "whole"] "_law_bent" (defScope s_law_bent) A.law_bent.f cdv Ar outer s H E).nox ((defBody s_law_bent).drop 6) t ∧
      ∀ (Q : VK) (M : List Addr) (st : Addr) (H0 : Hp) (Z D : Nat) (σ' : L2.St) (Hc : Hp), BntM M st H0 Z D σ' Hc → (∀ v d H', Is M H' d v → sz d ≤ 3 * Z + 4000 → dep d ≤ D + 2 → StrAt M H' st → Adv [st] H0 H' → Q v H') → t { nx := fun _ H' => Q .non H', rt := Q } σ' Hc := by
  obtain ⟨t3, h3, q3⟩ := bent3 (P := P) (base := base) (s := s) (outer := outer) (H := H) (E := E) A hr
  refine ⟨_, (pss_cons (ps_if (pt_cmpR op_gt (pe_call (ok_law_next A) (hr.mono (by omega)) rfl A.law_next.m A.law_next.F.kp A.law_next.b .nil pass0 (pa_cons (pv 0) (pa_cons pe_int pa_nil))) pe_int (nomark _))
    (pss_one (ps_ret (pe_op op_catA (pe_op op_catA (pe_slice sl_tupA (pv 1) po_none (po_some (pv 4))) (pe_tup (pa_cons (pe_call (ok_law_pick A) (hr.mono (by omega)) rfl A.law_pick.m A.law_pick.F.kp A.law_pick.b .nil pass0 (pa_cons (pv 0) (pa_cons (pv 7) pa_nil))) pa_nil))) (pe_slice sl_tupA (pv 1) (po_some (pe_op op_add (pv 4) pe_int)) po_none))))
    pss_nil)
  (pss_cons (ps_set (i := 8) sc_law_bent.nd rfl (Or.inl rfl) (pe_op op_cat (pe_callTy call_list_of (by rfl) A.T.list (by decide +kernel) (pa_cons (pv 2) pa_nil)) (pe_lst (pa_cons (pe_tup (pa_cons pe_str pa_nil)) pa_nil))))
  (pss_cut (ps_asg (pe_call (ok_law_pick A) (hr.mono (by omega)) rfl A.law_pick.m A.law_pick.F.kp A.law_pick.b .nil pass0 (pa_cons (pv 0) (pa_cons (pe_tup (pa_cons (pe_tup (pa_cons pe_str (pa_cons (pv 6) (pa_cons (pv 6) pa_nil)))) (pa_cons (pe_tup (pa_cons pe_str (pa_cons (pv 6) pa_nil))) (pa_cons (pe_tup (pa_cons pe_str (pa_cons pe_int pa_nil))) (pa_cons (pe_tup (pa_cons pe_str (pa_cons pe_int pa_nil))) (pa_cons (pe_tup (pa_cons pe_str (pa_cons pe_int (pa_cons (pe_un un_neg pe_int) pa_nil)))) (pa_cons (pe_tup (pa_cons pe_str (pa_cons pe_int pa_nil))) (pa_cons pe_non (pa_cons (pe_lst (pa_cons pe_str pa_nil)) pa_nil))))))))) pa_nil))) (pg_sub (pv 8) (pv 6) set_list))
  h3))), ?_⟩
  rintro Q M st H0 Z D σ' Hc ⟨⟨cl, sh, od, u1, u2, u3, vr, rs, os, ds, e1, e2, e3, k, at_, rfl, k1, k3, hat, hrl, C, hZ, hD, D2, hod, ods, on, ol, O, ms, al, hs, A0⟩⟩ q
  have sz3 := C.T.sq A.W
  walk_at "rd"
  clear sz3
  refine ⟨st, 4, M, rfl, hs, by decide, by decide, fun d G1 d0 d1 hs_ ax => ?_⟩
  replace C := C.adv (ax.more fun b hb => by rw [List.mem_singleton.mp hb]; exact ms)
  replace hod := ax _ _ (notin1 ods) hod
  replace O := O.adv (ax.more fun b hb => by rw [List.mem_singleton.mp hb]; exact ms)
  replace al := alloc_adv al ax (by simpa using hs_.here)
  replace hs := hs_
  replace A0 := A0.trans ax
  clear ax hs_
  have sq := C.T.sq A.W
  walk_at "rd"
  refine iteB (fun e => ?_) (fun e => ?_)
  · clear sq
    obtain rfl | rfl | rfl : k = 1 ∨ k = 2 ∨ k = 3 := by omega
    · have sq := C.T.sq A.W
      walk_at "rd"
      refine ⟨cl, _, rfl, sq, fun hw => absurd hw (by show ¬ (HT.sIx 4 0 none = 0 ∧ HT.sIx 4 4 (some 1) = 4); decide), fun _ p1 nx => ?_⟩
      have ec : cutV [V.ref sh, u1, u2, u3] none (some 1) = [.ref sh] := rfl
      rw [show (((1 : Nat) : Int)) = 1 from rfl, ec]
      clear sq ec
      have ax : Adv [] G1 (upd G1 p1 (.tup [.ref sh])) := Adv.new nx
      have h1 : (upd G1 p1 (.tup [.ref sh])) p1 = some (.tup [.ref sh]) := upd_same
      have p1M : p1 ∉ M := not_mem_new al nx
      have p1s : p1 ≠ st := fun z => hs.here (by rw [← z]; exact nx)
      replace C := C.adv (Adv.nil ax)
      replace hod := Adv.same ax _ _ hod
      replace O := O.adv (Adv.nil ax)
      replace al := alloc_adv al ax (by simp)
      replace hs := hs.same ax
      replace A0 := A0.trans (Adv.nil ax)
      generalize (upd G1 p1 (.tup [.ref sh])) = G2 at ax h1 C hod O al hs A0
      clear ax nx
      walk_at "rd"
      refine ⟨st, od, os, M, rfl, hs, .inl hod, ods, on, by omega, fun x G3 hx hs_ ax => ?_⟩
      obtain ⟨dx, ix, zx, kx⟩ := O.h x hx
      replace C := C.adv (ax.more fun b hb => by rw [List.mem_singleton.mp hb]; exact ms)
      replace hod := ax _ _ (notin1 ods) hod
      replace O := O.adv (ax.more fun b hb => by rw [List.mem_singleton.mp hb]; exact ms)
      replace al := alloc_adv al ax (by simpa using hs_.here)
      replace hs := hs_
      replace A0 := A0.trans ax
      replace h1 := ax _ _ (notin1 p1s) h1
      replace ix := ix.adv (ax.more fun b hb => by rw [List.mem_singleton.mp hb]; exact ms)
      clear ax hs_
      walk_at "rd"
      refine ⟨by show 1 ≤ sizeLine; decide, fun p2 nx => ?_⟩
      have ax : Adv [] G3 (upd G3 p2 (.tup [x])) := Adv.new nx
      have h2 : (upd G3 p2 (.tup [x])) p2 = some (.tup [x]) := upd_same
      have p2M : p2 ∉ M := not_mem_new al nx
      have p2s : p2 ≠ st := fun z => hs.here (by rw [← z]; exact nx)
      replace C := C.adv (Adv.nil ax)
      replace hod := Adv.same ax _ _ hod
      replace O := O.adv (Adv.nil ax)
      replace al := alloc_adv al ax (by simp)
      replace hs := hs.same ax
      replace A0 := A0.trans (Adv.nil ax)
      replace h1 := Adv.same ax _ _ h1
      replace ix := ix.adv (Adv.nil ax)
      generalize (upd G3 p2 (.tup [x])) = G4 at ax h2 C hod O al hs A0 h1 ix
      clear ax nx
      walk_at "rd"
      refine rd_catM A.W al (Tp.of h1 p1M) (Tp.of h2 p2M) (by simp [sizeLine_eq]) fun c G5 tc ax => ?_
      replace C := C.adv (Adv.nil ax)
      replace hod := Adv.same ax _ _ hod
      replace O := O.adv (Adv.nil ax)
      replace al := alloc_adv al ax (by simp)
      replace hs := hs.same ax
      replace A0 := A0.trans (Adv.nil ax)
      replace h1 := Adv.same ax _ _ h1
      replace ix := ix.adv (Adv.nil ax)
      replace h2 := Adv.same ax _ _ h2
      clear ax
      have sq := C.T.sq A.W
      walk_at "rd"
      refine ⟨cl, _, rfl, sq, fun hw => absurd hw (by show ¬ (HT.sIx 4 0 (some 2) = 0 ∧ HT.sIx 4 4 none = 4); decide), fun _ p3 nx => ?_⟩
      have ec : cutV [V.ref sh, u1, u2, u3] (some (1 + 1)) none = [u2, u3] := rfl
      rw [ec]
      clear sq ec
      have ax : Adv [] G5 (upd G5 p3 (.tup [u2, u3])) := Adv.new nx
      have h3 : (upd G5 p3 (.tup [u2, u3])) p3 = some (.tup [u2, u3]) := upd_same
      have p3M : p3 ∉ M := not_mem_new al nx
      have p3s : p3 ≠ st := fun z => hs.here (by rw [← z]; exact nx)
      replace C := C.adv (Adv.nil ax)
      replace hod := Adv.same ax _ _ hod
      replace O := O.adv (Adv.nil ax)
      replace al := alloc_adv al ax (by simp)
      replace hs := hs.same ax
      replace A0 := A0.trans (Adv.nil ax)
      replace h1 := Adv.same ax _ _ h1
      replace ix := ix.adv (Adv.nil ax)
      replace h2 := Adv.same ax _ _ h2
      replace tc := tc.adv (Adv.nil ax)
      generalize (upd G5 p3 (.tup [u2, u3])) = G6 at ax h3 C hod O al hs A0 h1 ix h2 tc
      clear ax nx
      walk_at "rd"
      refine rd_catM A.W al tc (Tp.of h3 p3M) (by simp [sizeLine_eq]) fun r G7 tr ax => ?_
      replace C := C.adv (Adv.nil ax)
      replace hod := Adv.same ax _ _ hod
      replace O := O.adv (Adv.nil ax)
      replace al := alloc_adv al ax (by simp)
      replace hs := hs.same ax
      replace A0 := A0.trans (Adv.nil ax)
      replace h1 := Adv.same ax _ _ h1
      replace ix := ix.adv (Adv.nil ax)
      replace h2 := Adv.same ax _ _ h2
      replace tc := tc.adv (Adv.nil ax)
      replace h3 := Adv.same ax _ _ h3
      clear ax
      refine q (.ref r) (.tuple [.list ds, dx, e2, e3]) _ (Is.tp tr (IsDs.cons (Is.lst C.hsh C.shM C.rd) (IsDs.cons ix (IsDs.cons C.i2 (IsDs.cons C.i3 IsDs.nil))))) ?_ ?_ hs A0
      · simp only [sz_tup, szL_cons, szL_nil] at hZ ⊢; omega
      · simp only [dep_tup, depL_cons, depL_nil] at hD ⊢; omega
    · have sq := C.T.sq A.W
      walk_at "rd"
      refine ⟨cl, _, rfl, sq, fun hw => absurd hw (by show ¬ (HT.sIx 4 0 none = 0 ∧ HT.sIx 4 4 (some 2) = 4); decide), fun _ p1 nx => ?_⟩
      have ec : cutV [V.ref sh, u1, u2, u3] none (some 2) = [.ref sh, u1] := rfl
      rw [show (((2 : Nat) : Int)) = 2 from rfl, ec]
      clear sq ec
      have ax : Adv [] G1 (upd G1 p1 (.tup [.ref sh, u1])) := Adv.new nx
      have h1 : (upd G1 p1 (.tup [.ref sh, u1])) p1 = some (.tup [.ref sh, u1]) := upd_same
      have p1M : p1 ∉ M := not_mem_new al nx
      have p1s : p1 ≠ st := fun z => hs.here (by rw [← z]; exact nx)
      replace C := C.adv (Adv.nil ax)
      replace hod := Adv.same ax _ _ hod
      replace O := O.adv (Adv.nil ax)
      replace al := alloc_adv al ax (by simp)
      replace hs := hs.same ax
      replace A0 := A0.trans (Adv.nil ax)
      generalize (upd G1 p1 (.tup [.ref sh, u1])) = G2 at ax h1 C hod O al hs A0
      clear ax nx
      walk_at "rd"
      refine ⟨st, od, os, M, rfl, hs, .inl hod, ods, on, by omega, fun x G3 hx hs_ ax => ?_⟩
      obtain ⟨dx, ix, zx, kx⟩ := O.h x hx
      replace C := C.adv (ax.more fun b hb => by rw [List.mem_singleton.mp hb]; exact ms)
      replace hod := ax _ _ (notin1 ods) hod
      replace O := O.adv (ax.more fun b hb => by rw [List.mem_singleton.mp hb]; exact ms)
      replace al := alloc_adv al ax (by simpa using hs_.here)
      replace hs := hs_
      replace A0 := A0.trans ax
      replace h1 := ax _ _ (notin1 p1s) h1
      replace ix := ix.adv (ax.more fun b hb => by rw [List.mem_singleton.mp hb]; exact ms)
      clear ax hs_
      walk_at "rd"
      refine ⟨by show 1 ≤ sizeLine; decide, fun p2 nx => ?_⟩
      have ax : Adv [] G3 (upd G3 p2 (.tup [x])) := Adv.new nx
      have h2 : (upd G3 p2 (.tup [x])) p2 = some (.tup [x]) := upd_same
      have p2M : p2 ∉ M := not_mem_new al nx
      have p2s : p2 ≠ st := fun z => hs.here (by rw [← z]; exact nx)
      replace C := C.adv (Adv.nil ax)
      replace hod := Adv.same ax _ _ hod
      replace O := O.adv (Adv.nil ax)
      replace al := alloc_adv al ax (by simp)
      replace hs := hs.same ax
      replace A0 := A0.trans (Adv.nil ax)
      replace h1 := Adv.same ax _ _ h1
      replace ix := ix.adv (Adv.nil ax)
      generalize (upd G3 p2 (.tup [x])) = G4 at ax h2 C hod O al hs A0 h1 ix
      clear ax nx
      walk_at "rd"
      refine rd_catM A.W al (Tp.of h1 p1M) (Tp.of h2 p2M) (by simp [sizeLine_eq]) fun c G5 tc ax => ?_
      replace C := C.adv (Adv.nil ax)
      replace hod := Adv.same ax _ _ hod
      replace O := O.adv (Adv.nil ax)
      replace al := alloc_adv al ax (by simp)
      replace hs := hs.same ax
      replace A0 := A0.trans (Adv.nil ax)
      replace h1 := Adv.same ax _ _ h1
      replace ix := ix.adv (Adv.nil ax)
      replace h2 := Adv.same ax _ _ h2
      clear ax
      have sq := C.T.sq A.W
      walk_at "rd"
      refine ⟨cl, _, rfl, sq, fun hw => absurd hw (by show ¬ (HT.sIx 4 0 (some 3) = 0 ∧ HT.sIx 4 4 none = 4); decide), fun _ p3 nx => ?_⟩
      have ec : cutV [V.ref sh, u1, u2, u3] (some (2 + 1)) none = [u3] := rfl
      rw [ec]
      clear sq ec
      have ax : Adv [] G5 (upd G5 p3 (.tup [u3])) := Adv.new nx
      have h3 : (upd G5 p3 (.tup [u3])) p3 = some (.tup [u3]) := upd_same
      have p3M : p3 ∉ M := not_mem_new al nx
      have p3s : p3 ≠ st := fun z => hs.here (by rw [← z]; exact nx)
      replace C := C.adv (Adv.nil ax)
      replace hod := Adv.same ax _ _ hod
      replace O := O.adv (Adv.nil ax)
      replace al := alloc_adv al ax (by simp)
      replace hs := hs.same ax
      replace A0 := A0.trans (Adv.nil ax)
      replace h1 := Adv.same ax _ _ h1
      replace ix := ix.adv (Adv.nil ax)
      replace h2 := Adv.same ax _ _ h2
      replace tc := tc.adv (Adv.nil ax)
      generalize (upd G5 p3 (.tup [u3])) = G6 at ax h3 C hod O al hs A0 h1 ix h2 tc
      clear ax nx
      walk_at "rd"
      refine rd_catM A.W al tc (Tp.of h3 p3M) (by simp [sizeLine_eq]) fun r G7 tr ax => ?_
      replace C := C.adv (Adv.nil ax)
      replace hod := Adv.same ax _ _ hod
      replace O := O.adv (Adv.nil ax)
      replace al := alloc_adv al ax (by simp)
      replace hs := hs.same ax
      replace A0 := A0.trans (Adv.nil ax)
      replace h1 := Adv.same ax _ _ h1
      replace ix := ix.adv (Adv.nil ax)
      replace h2 := Adv.same ax _ _ h2
      replace tc := tc.adv (Adv.nil ax)
      replace h3 := Adv.same ax _ _ h3
      clear ax
      refine q (.ref r) (.tuple [.list ds, e1, dx, e3]) _ (Is.tp tr (IsDs.cons (Is.lst C.hsh C.shM C.rd) (IsDs.cons C.i1 (IsDs.cons ix (IsDs.cons C.i3 IsDs.nil))))) ?_ ?_ hs A0
      · simp only [sz_tup, szL_cons, szL_nil] at hZ ⊢; omega
      · simp only [dep_tup, depL_cons, depL_nil] at hD ⊢; omega
    · have sq := C.T.sq A.W
      walk_at "rd"
      refine ⟨cl, _, rfl, sq, fun hw => absurd hw (by show ¬ (HT.sIx 4 0 none = 0 ∧ HT.sIx 4 4 (some 3) = 4); decide), fun _ p1 nx => ?_⟩
      have ec : cutV [V.ref sh, u1, u2, u3] none (some 3) = [.ref sh, u1, u2] := rfl
      rw [show (((3 : Nat) : Int)) = 3 from rfl, ec]
      clear sq ec
      have ax : Adv [] G1 (upd G1 p1 (.tup [.ref sh, u1, u2])) := Adv.new nx
      have h1 : (upd G1 p1 (.tup [.ref sh, u1, u2])) p1 = some (.tup [.ref sh, u1, u2]) := upd_same
      have p1M : p1 ∉ M := not_mem_new al nx
      have p1s : p1 ≠ st := fun z => hs.here (by rw [← z]; exact nx)
      replace C := C.adv (Adv.nil ax)
      replace hod := Adv.same ax _ _ hod
      replace O := O.adv (Adv.nil ax)
      replace al := alloc_adv al ax (by simp)
      replace hs := hs.same ax
      replace A0 := A0.trans (Adv.nil ax)
      generalize (upd G1 p1 (.tup [.ref sh, u1, u2])) = G2 at ax h1 C hod O al hs A0
      clear ax nx
      walk_at "rd"
      refine ⟨st, od, os, M, rfl, hs, .inl hod, ods, on, by omega, fun x G3 hx hs_ ax => ?_⟩
      obtain ⟨dx, ix, zx, kx⟩ := O.h x hx
      replace C := C.adv (ax.more fun b hb => by rw [List.mem_singleton.mp hb]; exact ms)
      replace hod := ax _ _ (notin1 ods) hod
      replace O := O.adv (ax.more fun b hb => by rw [List.mem_singleton.mp hb]; exact ms)
      replace al := alloc_adv al ax (by simpa using hs_.here)
      replace hs := hs_
      replace A0 := A0.trans ax
      replace h1 := ax _ _ (notin1 p1s) h1
      replace ix := ix.adv (ax.more fun b hb => by rw [List.mem_singleton.mp hb]; exact ms)
      clear ax hs_
      walk_at "rd"
      refine ⟨by show 1 ≤ sizeLine; decide, fun p2 nx => ?_⟩
      have ax : Adv [] G3 (upd G3 p2 (.tup [x])) := Adv.new nx
      have h2 : (upd G3 p2 (.tup [x])) p2 = some (.tup [x]) := upd_same
      have p2M : p2 ∉ M := not_mem_new al nx
      have p2s : p2 ≠ st := fun z => hs.here (by rw [← z]; exact nx)
      replace C := C.adv (Adv.nil ax)
      replace hod := Adv.same ax _ _ hod
      replace O := O.adv (Adv.nil ax)
      replace al := alloc_adv al ax (by simp)
      replace hs := hs.same ax
      replace A0 := A0.trans (Adv.nil ax)
      replace h1 := Adv.same ax _ _ h1
      replace ix := ix.adv (Adv.nil ax)
      generalize (upd G3 p2 (.tup [x])) = G4 at ax h2 C hod O al hs A0 h1 ix
      clear ax nx
      walk_at "rd"
      refine rd_catM A.W al (Tp.of h1 p1M) (Tp.of h2 p2M) (by simp [sizeLine_eq]) fun c G5 tc ax => ?_
      replace C := C.adv (Adv.nil ax)
      replace hod := Adv.same ax _ _ hod
      replace O := O.adv (Adv.nil ax)
      replace al := alloc_adv al ax (by simp)
      replace hs := hs.same ax
      replace A0 := A0.trans (Adv.nil ax)
      replace h1 := Adv.same ax _ _ h1
      replace ix := ix.adv (Adv.nil ax)
      replace h2 := Adv.same ax _ _ h2
      clear ax
      have sq := C.T.sq A.W
      walk_at "rd"
      refine ⟨cl, _, rfl, sq, fun hw => absurd hw (by show ¬ (HT.sIx 4 0 (some 4) = 0 ∧ HT.sIx 4 4 none = 4); decide), fun _ p3 nx => ?_⟩
      have ec : cutV [V.ref sh, u1, u2, u3] (some (3 + 1)) none = [] := rfl
      rw [ec]
      clear sq ec
      have ax : Adv [] G5 (upd G5 p3 (.tup [])) := Adv.new nx
      have h3 : (upd G5 p3 (.tup [])) p3 = some (.tup []) := upd_same
      have p3M : p3 ∉ M := not_mem_new al nx
      have p3s : p3 ≠ st := fun z => hs.here (by rw [← z]; exact nx)
      replace C := C.adv (Adv.nil ax)
      replace hod := Adv.same ax _ _ hod
      replace O := O.adv (Adv.nil ax)
      replace al := alloc_adv al ax (by simp)
      replace hs := hs.same ax
      replace A0 := A0.trans (Adv.nil ax)
      replace h1 := Adv.same ax _ _ h1
      replace ix := ix.adv (Adv.nil ax)
      replace h2 := Adv.same ax _ _ h2
      replace tc := tc.adv (Adv.nil ax)
      generalize (upd G5 p3 (.tup [])) = G6 at ax h3 C hod O al hs A0 h1 ix h2 tc
      clear ax nx
      walk_at "rd"
      refine rd_catM A.W al tc (Tp.of h3 p3M) (by simp [sizeLine_eq]) fun r G7 tr ax => ?_
      replace C := C.adv (Adv.nil ax)
      replace hod := Adv.same ax _ _ hod
      replace O := O.adv (Adv.nil ax)
      replace al := alloc_adv al ax (by simp)
      replace hs := hs.same ax
      replace A0 := A0.trans (Adv.nil ax)
      replace h1 := Adv.same ax _ _ h1
      replace ix := ix.adv (Adv.nil ax)
      replace h2 := Adv.same ax _ _ h2
      replace tc := tc.adv (Adv.nil ax)
      replace h3 := Adv.same ax _ _ h3
      clear ax
      refine q (.ref r) (.tuple [.list ds, e1, e2, dx]) _ (Is.tp tr (IsDs.cons (Is.lst C.hsh C.shM C.rd) (IsDs.cons C.i1 (IsDs.cons C.i2 (IsDs.cons ix IsDs.nil))))) ?_ ?_ hs A0
      · simp only [sz_tup, szL_cons, szL_nil] at hZ ⊢; omega
      · simp only [dep_tup, depL_cons, depL_nil] at hD ⊢; omega
  · have sqs := C.hsh
    clear hod ods on ol O
    have rl := C.rd.len
    walk_at "rd"
    intro p1 nx
    have ax : Adv [] G1 (upd G1 p1 (.lst rs)) := Adv.new nx
    have h1 : (upd G1 p1 (.lst rs)) p1 = some (.lst rs) := upd_same
    have p1M : p1 ∉ M := not_mem_new al nx
    have p1s : p1 ≠ st := fun z => hs.here (by rw [← z]; exact nx)
    replace C := C.adv (Adv.nil ax)
    replace al := alloc_adv al ax (by simp)
    replace hs := hs.same ax
    replace A0 := A0.trans (Adv.nil ax)
    generalize (upd G1 p1 (.lst rs)) = G2 at ax h1 C al hs A0
    clear ax nx
    clear sqs
    walk_at "rd"
    refine ⟨by show 1 ≤ sizeLine; decide, fun p2 nx => ?_⟩
    have ax : Adv [] G2 (upd G2 p2 (.tup [.str "no"])) := Adv.new nx
    have h2 : (upd G2 p2 (.tup [.str "no"])) p2 = some (.tup [.str "no"]) := upd_same
    have p2M : p2 ∉ M := not_mem_new al nx
    have p2s : p2 ≠ st := fun z => hs.here (by rw [← z]; exact nx)
    replace C := C.adv (Adv.nil ax)
    replace al := alloc_adv al ax (by simp)
    replace hs := hs.same ax
    replace A0 := A0.trans (Adv.nil ax)
    replace h1 := Adv.same ax _ _ h1
    generalize (upd G2 p2 (.tup [.str "no"])) = G3 at ax h2 C al hs A0 h1
    clear ax nx
    walk_at "rd"
    refine ⟨by show 1 ≤ sizeLine; decide, fun p3 nx => ?_⟩
    have ax : Adv [] G3 (upd G3 p3 (.lst [.ref p2])) := Adv.new nx
    have h3 : (upd G3 p3 (.lst [.ref p2])) p3 = some (.lst [.ref p2]) := upd_same
    have p3M : p3 ∉ M := not_mem_new al nx
    have p3s : p3 ≠ st := fun z => hs.here (by rw [← z]; exact nx)
    replace C := C.adv (Adv.nil ax)
    replace al := alloc_adv al ax (by simp)
    replace hs := hs.same ax
    replace A0 := A0.trans (Adv.nil ax)
    replace h1 := Adv.same ax _ _ h1
    replace h2 := Adv.same ax _ _ h2
    generalize (upd G3 p3 (.lst [.ref p2])) = G4 at ax h3 C al hs A0 h1 h2
    clear ax nx
    walk_at "rd"
    refine ⟨p1, p3, _, _, rfl, rfl, h1, h3, by rw [sizeLine_eq, List.length_singleton]; omega, fun B nx => ?_⟩
    have n2 : Is M G4 (.tuple [.str "no"]) (.ref p2) := Is.tup h2 p2M (IsDs.one .str)
    have R : IsDs M G4 (ds ++ [.tuple [.str "no"]]) (rs ++ [.ref p2]) := C.rd.app (IsDs.one n2)
    clear h1 h2 h3 n2
    have ax : Adv [] G4 (upd G4 B (.lst (rs ++ [.ref p2]))) := Adv.new nx
    have hB : (upd G4 B (.lst (rs ++ [.ref p2]))) B = some (.lst (rs ++ [.ref p2])) := upd_same
    have BM : B ∉ M := not_mem_new al nx
    have Bs : B ≠ st := fun z => hs.here (by rw [← z]; exact nx)
    replace C := C.fresh nx
    replace R := R.fresh nx
    replace hs := hs.fresh nx
    have B0 : H0 B = none := A0.free (notin1 Bs) nx
    have alB : ∀ b ∈ B :: M, (upd G4 B (.lst (rs ++ [.ref p2]))) b ≠ none := fun b hb => by
      rcases List.mem_cons.mp hb with rfl | hb
      · rw [hB]; simp
      · exact alloc_adv al ax (by simp) b hb
    clear al
    replace C := C.adv (Adv.nil ax)
    replace hs := hs.same ax
    replace A0 := A0.trans (Adv.nil ax)
    replace R := R.adv (Adv.nil ax)
    have al := alB
    clear alB
    generalize (upd G4 B (.lst (rs ++ [.ref p2]))) = G5 at ax C hs A0 R hB al
    clear ax nx
    have ms : st ∈ B :: M := List.mem_cons_of_mem _ ms
    walk_at "rd"
    refine ⟨BntW M st H0 Z D, ?_, fun σ4 H4 x => q3 Q M st H0 Z D σ4 H4 x q⟩
    walk_at "rd"
    have F : Acc 10 1 (B :: M) G5 [] := Acc.nil
    refine ⟨by show 3 ≤ sizeLine; decide, fun q1 nx => ?_⟩
    have ax : Adv [] G5 (upd G5 q1 (.tup [.str "and", .int (at_ : Nat), .int (at_ : Nat)])) := Adv.new nx
    have hq1 : (upd G5 q1 (.tup [.str "and", .int (at_ : Nat), .int (at_ : Nat)])) q1 = some (.tup [.str "and", .int (at_ : Nat), .int (at_ : Nat)]) := upd_same
    have q1M : q1 ∉ (B :: M) := not_mem_new al nx
    have q1s : q1 ≠ st := fun z => hs.here (by rw [← z]; exact nx)
    replace C := C.adv (Adv.nil ax)
    replace hs := hs.same ax
    replace A0 := A0.trans (Adv.nil ax)
    replace R := R.adv (Adv.nil ax)
    replace hB := Adv.same ax _ _ hB
    replace al := alloc_adv al ax (by simp)
    replace F := F.adv (Adv.nil ax)
    generalize (upd G5 q1 (.tup [.str "and", .int (at_ : Nat), .int (at_ : Nat)])) = G6 at ax hq1 C hs A0 R hB al F
    clear ax nx
    replace F := F.snoc (v := .ref q1) (d := .tuple [.str "and", .int (at_ : Nat), .int (at_ : Nat)]) (Is.tup hq1 q1M (IsDs.cons .str (IsDs.cons .int (IsDs.cons .int IsDs.nil)))) (by simp [sz_tup, sz_lst, szL_cons, szL_nil, sz1_int, sz1_str]) (by simp [dep_tup, dep_lst, depL_cons, depL_nil, dep1_int, dep1_str])
    clear hq1
    walk_at "rd"
    refine ⟨by show 2 ≤ sizeLine; decide, fun q2 nx => ?_⟩
    have ax : Adv [] G6 (upd G6 q2 (.tup [.str "box", .int (at_ : Nat)])) := Adv.new nx
    have hq2 : (upd G6 q2 (.tup [.str "box", .int (at_ : Nat)])) q2 = some (.tup [.str "box", .int (at_ : Nat)]) := upd_same
    have q2M : q2 ∉ (B :: M) := not_mem_new al nx
    have q2s : q2 ≠ st := fun z => hs.here (by rw [← z]; exact nx)
    replace C := C.adv (Adv.nil ax)
    replace hs := hs.same ax
    replace A0 := A0.trans (Adv.nil ax)
    replace R := R.adv (Adv.nil ax)
    replace hB := Adv.same ax _ _ hB
    replace al := alloc_adv al ax (by simp)
    replace F := F.adv (Adv.nil ax)
    generalize (upd G6 q2 (.tup [.str "box", .int (at_ : Nat)])) = G7 at ax hq2 C hs A0 R hB al F
    clear ax nx
    replace F := F.snoc (v := .ref q2) (d := .tuple [.str "box", .int (at_ : Nat)]) (Is.tup hq2 q2M (IsDs.cons .str (IsDs.cons .int IsDs.nil))) (by simp [sz_tup, sz_lst, szL_cons, szL_nil, sz1_int, sz1_str]) (by simp [dep_tup, dep_lst, depL_cons, depL_nil, dep1_int, dep1_str])
    clear hq2
    walk_at "rd"
    refine ⟨by show 2 ≤ sizeLine; decide, fun q3 nx => ?_⟩
    have ax : Adv [] G7 (upd G7 q3 (.tup [.str "box", .int 0])) := Adv.new nx
    have hq3 : (upd G7 q3 (.tup [.str "box", .int 0])) q3 = some (.tup [.str "box", .int 0]) := upd_same
    have q3M : q3 ∉ (B :: M) := not_mem_new al nx
    have q3s : q3 ≠ st := fun z => hs.here (by rw [← z]; exact nx)
    replace C := C.adv (Adv.nil ax)
    replace hs := hs.same ax
    replace A0 := A0.trans (Adv.nil ax)
    replace R := R.adv (Adv.nil ax)
    replace hB := Adv.same ax _ _ hB
    replace al := alloc_adv al ax (by simp)
    replace F := F.adv (Adv.nil ax)
    generalize (upd G7 q3 (.tup [.str "box", .int 0])) = G8 at ax hq3 C hs A0 R hB al F
    clear ax nx
    replace F := F.snoc (v := .ref q3) (d := .tuple [.str "box", .int 0]) (Is.tup hq3 q3M (IsDs.cons .str (IsDs.cons .int IsDs.nil))) (by simp [sz_tup, sz_lst, szL_cons, szL_nil, sz1_int, sz1_str]) (by simp [dep_tup, dep_lst, depL_cons, depL_nil, dep1_int, dep1_str])
    clear hq3
    walk_at "rd"
    refine ⟨by show 2 ≤ sizeLine; decide, fun q4 nx => ?_⟩
    have ax : Adv [] G8 (upd G8 q4 (.tup [.str "letter", .int 8])) := Adv.new nx
    have hq4 : (upd G8 q4 (.tup [.str "letter", .int 8])) q4 = some (.tup [.str "letter", .int 8]) := upd_same
    have q4M : q4 ∉ (B :: M) := not_mem_new al nx
    have q4s : q4 ≠ st := fun z => hs.here (by rw [← z]; exact nx)
    replace C := C.adv (Adv.nil ax)
    replace hs := hs.same ax
    replace A0 := A0.trans (Adv.nil ax)
    replace R := R.adv (Adv.nil ax)
    replace hB := Adv.same ax _ _ hB
    replace al := alloc_adv al ax (by simp)
    replace F := F.adv (Adv.nil ax)
    generalize (upd G8 q4 (.tup [.str "letter", .int 8])) = G9 at ax hq4 C hs A0 R hB al F
    clear ax nx
    replace F := F.snoc (v := .ref q4) (d := .tuple [.str "letter", .int 8]) (Is.tup hq4 q4M (IsDs.cons .str (IsDs.cons .int IsDs.nil))) (by simp [sz_tup, sz_lst, szL_cons, szL_nil, sz1_int, sz1_str]) (by simp [dep_tup, dep_lst, depL_cons, depL_nil, dep1_int, dep1_str])
    clear hq4
    walk_at "rd"
    refine ⟨by show 3 ≤ sizeLine; decide, fun q5 nx => ?_⟩
    have ax : Adv [] G9 (upd G9 q5 (.tup [.str "or", .int 0, .int (-1)])) := Adv.new nx
    have hq5 : (upd G9 q5 (.tup [.str "or", .int 0, .int (-1)])) q5 = some (.tup [.str "or", .int 0, .int (-1)]) := upd_same
    have q5M : q5 ∉ (B :: M) := not_mem_new al nx
    have q5s : q5 ≠ st := fun z => hs.here (by rw [← z]; exact nx)
    replace C := C.adv (Adv.nil ax)
    replace hs := hs.same ax
    replace A0 := A0.trans (Adv.nil ax)
    replace R := R.adv (Adv.nil ax)
    replace hB := Adv.same ax _ _ hB
    replace al := alloc_adv al ax (by simp)
    replace F := F.adv (Adv.nil ax)
    generalize (upd G9 q5 (.tup [.str "or", .int 0, .int (-1)])) = G10 at ax hq5 C hs A0 R hB al F
    clear ax nx
    replace F := F.snoc (v := .ref q5) (d := .tuple [.str "or", .int 0, .int (-1)]) (Is.tup hq5 q5M (IsDs.cons .str (IsDs.cons .int (IsDs.cons .int IsDs.nil)))) (by simp [sz_tup, sz_lst, szL_cons, szL_nil, sz1_int, sz1_str]) (by simp [dep_tup, dep_lst, depL_cons, depL_nil, dep1_int, dep1_str])
    clear hq5
    walk_at "rd"
    refine ⟨by show 2 ≤ sizeLine; decide, fun q6 nx => ?_⟩
    have ax : Adv [] G10 (upd G10 q6 (.tup [.str "no", .int 0])) := Adv.new nx
    have hq6 : (upd G10 q6 (.tup [.str "no", .int 0])) q6 = some (.tup [.str "no", .int 0]) := upd_same
    have q6M : q6 ∉ (B :: M) := not_mem_new al nx
    have q6s : q6 ≠ st := fun z => hs.here (by rw [← z]; exact nx)
    replace C := C.adv (Adv.nil ax)
    replace hs := hs.same ax
    replace A0 := A0.trans (Adv.nil ax)
    replace R := R.adv (Adv.nil ax)
    replace hB := Adv.same ax _ _ hB
    replace al := alloc_adv al ax (by simp)
    replace F := F.adv (Adv.nil ax)
    generalize (upd G10 q6 (.tup [.str "no", .int 0])) = G11 at ax hq6 C hs A0 R hB al F
    clear ax nx
    replace F := F.snoc (v := .ref q6) (d := .tuple [.str "no", .int 0]) (Is.tup hq6 q6M (IsDs.cons .str (IsDs.cons .int IsDs.nil))) (by simp [sz_tup, sz_lst, szL_cons, szL_nil, sz1_int, sz1_str]) (by simp [dep_tup, dep_lst, depL_cons, depL_nil, dep1_int, dep1_str])
    clear hq6
    walk_at "rd"
    replace F := F.snoc (v := .non) (d := .none) Is.non (by rw [sz1_none]; decide) (by rw [dep1_none]; decide)
    refine ⟨by show 1 ≤ sizeLine; decide, fun q7 nx => ?_⟩
    have ax : Adv [] G11 (upd G11 q7 (.lst [.str "no"])) := Adv.new nx
    have hq7 : (upd G11 q7 (.lst [.str "no"])) q7 = some (.lst [.str "no"]) := upd_same
    have q7M : q7 ∉ (B :: M) := not_mem_new al nx
    have q7s : q7 ≠ st := fun z => hs.here (by rw [← z]; exact nx)
    replace C := C.adv (Adv.nil ax)
    replace hs := hs.same ax
    replace A0 := A0.trans (Adv.nil ax)
    replace R := R.adv (Adv.nil ax)
    replace hB := Adv.same ax _ _ hB
    replace al := alloc_adv al ax (by simp)
    replace F := F.adv (Adv.nil ax)
    generalize (upd G11 q7 (.lst [.str "no"])) = G12 at ax hq7 C hs A0 R hB al F
    clear ax nx
    replace F := F.snoc (v := .ref q7) (d := .list [.str "no"]) (Is.lst hq7 q7M (IsDs.cons .str IsDs.nil)) (by simp [sz_tup, sz_lst, szL_cons, szL_nil, sz1_int, sz1_str]) (by simp [dep_tup, dep_lst, depL_cons, depL_nil, dep1_int, dep1_str])
    clear hq7
    walk_at "rd"
    refine ⟨by show 8 ≤ sizeLine; decide, fun qq nx => ?_⟩
    have ax : Adv [] G12 (upd G12 qq (.tup [.ref q1, .ref q2, .ref q3, .ref q4, .ref q5, .ref q6, .non, .ref q7])) := Adv.new nx
    have hqq : (upd G12 qq (.tup [.ref q1, .ref q2, .ref q3, .ref q4, .ref q5, .ref q6, .non, .ref q7])) qq = some (.tup [.ref q1, .ref q2, .ref q3, .ref q4, .ref q5, .ref q6, .non, .ref q7]) := upd_same
    have qqM : qq ∉ (B :: M) := not_mem_new al nx
    have qqs : qq ≠ st := fun z => hs.here (by rw [← z]; exact nx)
    replace C := C.adv (Adv.nil ax)
    replace hs := hs.same ax
    replace A0 := A0.trans (Adv.nil ax)
    replace R := R.adv (Adv.nil ax)
    replace hB := Adv.same ax _ _ hB
    replace al := alloc_adv al ax (by simp)
    replace F := F.adv (Adv.nil ax)
    generalize (upd G12 qq (.tup [.ref q1, .ref q2, .ref q3, .ref q4, .ref q5, .ref q6, .non, .ref q7])) = G13 at ax hqq C hs A0 R hB al F
    clear ax nx
    walk_at "rd"
    refine ⟨st, qq, [.ref q1, .ref q2, .ref q3, .ref q4, .ref q5, .ref q6, .non, .ref q7], B :: M, rfl, hs, .inr hqq, qqs, by simp, by simp, fun x G14 hx hs_ ax => ?_⟩
    clear hqq
    obtain ⟨dx, ix, zx, kx⟩ := F.h x (by simpa using hx)
    clear hx F
    replace C := C.adv (ax.more fun b hb => by rw [List.mem_singleton.mp hb]; exact ms)
    replace hs := hs_
    replace A0 := A0.trans ax
    replace R := R.adv (ax.more fun b hb => by rw [List.mem_singleton.mp hb]; exact ms)
    replace hB := ax _ _ (notin1 Bs) hB
    replace al := alloc_adv al ax (by simpa using hs_.here)
    replace ix := ix.adv (ax.more fun b hb => by rw [List.mem_singleton.mp hb]; exact ms)
    clear ax hs_
    walk_at "rd"
    refine ⟨B, _, at_, at_, rfl, rfl, hB, ixN_of (by rw [List.length_append, List.length_singleton]; omega), ?_⟩
    have ax : Adv (B :: M) G14 (upd G14 B (.lst ((rs ++ [V.ref p2]).set at_ x))) := Adv.set List.mem_cons_self
    replace hB : (upd G14 B (.lst ((rs ++ [V.ref p2]).set at_ x))) B = some (.lst ((rs ++ [V.ref p2]).set at_ x)) := upd_same
    replace R := (R.set (i := at_) ix).adv ax
    replace C := (C.adv ax).less (fun b hb => List.mem_cons_of_mem _ hb)
    replace R := R.less (N := M) (fun b hb => List.mem_cons_of_mem _ hb)
    replace hs : StrAt M (upd G14 B (.lst ((rs ++ [V.ref p2]).set at_ x))) st := (hs.adv (N := [B]) (Adv.set (by simp)) (by simpa using Bs.symm) (by simp)).less (fun b hb => List.mem_cons_of_mem _ hb)
    replace al : ∀ b ∈ M, (upd G14 B (.lst ((rs ++ [V.ref p2]).set at_ x))) b ≠ none := fun b hb => alloc_adv al (N := [B]) (Adv.set (by simp)) (fun b hb => by rw [List.mem_singleton.mp hb, hB]; simp) b (List.mem_cons_of_mem _ hb)
    replace A0 := A0.mut B0 (o := .lst ((rs ++ [V.ref p2]).set at_ x))
    replace ms := ‹st ∈ M›
    have szB := szL_set (ds ++ [PyData.tuple [.str "no"]]) at_ dx
    have dpB := depL_set (ds ++ [PyData.tuple [.str "no"]]) at_ dx
    have sza : szL (ds ++ [PyData.tuple [.str "no"]]) = szL ds + 2 := by rw [szL_app]; simp [sz_tup, szL_cons, szL_nil, sz1_str]
    have dpa : depL (ds ++ [PyData.tuple [.str "no"]]) ≤ max (depL ds) 1 := by rw [depL_app]; simp [dep_tup, depL_cons, depL_nil, dep1_str]
    generalize (upd G14 B (.lst ((rs ++ [V.ref p2]).set at_ x))) = G15 at hB R C hs al A0
    have Ib := Is.lst hB BM R
    clear hB R ax ix B0
    generalize (ds ++ [PyData.tuple [.str "no"]]).set at_ dx = dB at Ib szB dpB
    refine ⟨⟨cl, sh, B, u1, u2, u3, _, _, _, _, _, rs, ds, _, e1, e2, e3, rfl, C, Ib, hrl, hZ, hD, D2, ?_, ?_, ms, al, hs, A0⟩⟩
    · simp only [sz_lst]; omega
    · simp only [dep_lst, depL_cons, depL_nil] at hD ⊢; omega
end

set_option Elab.async false
set_option linter.all false
set_option maxRecDepth 100000
set_option maxHeartbeats 4000000
open PySem PySem.Spec PyProof.Rows L2 LL
open C8 (pss_cut)
section
variable [KW]
variable {P : Program} {w : World} {K : PySem.W.Frag} {mg : Str → Option Value} {base : Heap}
/-! ### _law_bent -/
structure BntP (vs : List V) (H : Hp) (Q : VK) : Prop where
  ex : ∃ (M : List Addr) (st : Addr) (v : V) (ds x1 x2 x3 : List PyData) (Z D : Nat), vs = [.ref st, v] ∧ Is M H (.tuple [.list ds, .tuple x1, .tuple x2, .tuple x3]) v ∧ ds.length ≤ 3000 ∧ szL [.list ds, .tuple x1, .tuple x2, .tuple x3] ≤ Z ∧ depL [.list ds, .tuple x1, .tuple x2, .tuple x3] ≤ D ∧ 2 ≤ D ∧ Z ≤ 1000000 ∧
    StrAt M H st ∧ st ∈ M ∧ (∀ b ∈ M, H b ≠ none) ∧ ∀ v d H', Is M H' d v → sz d ≤ 3 * Z + 4000 → dep d ≤ D + 2 → StrAt M H' st → Adv [st] H H' → Q v H'
def spBnt : Sp := fun vs H Q _ => BntP vs H Q
theorem sz_len : ∀ ds : List PyData, ds.length ≤ szL ds
  | [] => Nat.zero_le _
  | d :: ds => by
    have := sz_len ds
    have := sz_pos d
    rw [List.length_cons, szL_cons]; omega
theorem szL_rev (ds : List PyData) : szL ds.reverse = szL ds := by
  induction ds with
  | nil => rfl
  | cons d ds ih => rw [List.reverse_cons, szL_app, ih, szL_cons, szL_cons, szL_nil]; omega
theorem depL_rev (ds : List PyData) : depL ds.reverse = depL ds := by
  induction ds with
  | nil => rfl
  | cons d ds ih => rw [List.reverse_cons, depL_app, ih, depL_cons, depL_cons, depL_nil]; omega
theorem IsDs.rev {M : List Addr} {H : Hp} : ∀ {ds : List PyData} {vs : List V}, IsDs M H ds vs → IsDs M H ds.reverse vs.reverse
  | [], vs, h => by
    have e : vs = [] := by unfold IsDs at h; exact h
    rw [e]; exact IsDs.nil
  | d :: ds, vs, h => by
    unfold IsDs at h
    obtain ⟨v, vs', rfl, h1, h2⟩ := h
    rw [List.reverse_cons, List.reverse_cons]
    exact (IsDs.rev h2).app (IsDs.one h1)
theorem IsDs.take {M : List Addr} {H : Hp} : ∀ {ds : List PyData} {vs : List V} (n : Nat), IsDs M H ds vs → IsDs M H (ds.take n) (vs.take n)
  | _, _, 0, h => by rw [List.take_zero, List.take_zero]; exact IsDs.nil
  | [], vs, n + 1, h => by
    have e : vs = [] := by unfold IsDs at h; exact h
    rw [e]; exact IsDs.nil
  | d :: ds, vs, n + 1, h => by
    unfold IsDs at h
    obtain ⟨v, r, rfl, h1, h2⟩ := h
    rw [List.take_succ_cons, List.take_succ_cons]
    exact IsDs.cons h1 (IsDs.take n h2)
theorem szL_take (ds : List PyData) (n : Nat) : szL (ds.take n) ≤ szL ds := by
  have h := szL_app (ds.take n) (ds.drop n)
  rw [List.take_append_drop] at h; omega
theorem depL_take (ds : List PyData) (n : Nat) : depL (ds.take n) ≤ depL ds := by
  have h := depL_app (ds.take n) (ds.drop n)
  rw [List.take_append_drop] at h; omega
theorem szL_dropX (ds : List PyData) (n : Nat) : szL (ds.drop n) ≤ szL ds := by
  have h := szL_app (ds.take n) (ds.drop n)
  rw [List.take_append_drop] at h; omega
theorem depL_dropX (ds : List PyData) (n : Nat) : depL (ds.drop n) ≤ depL ds := by
  have h := depL_app (ds.take n) (ds.drop n)
  rw [List.take_append_drop] at h; omega
theorem rd_slM {M : List Addr} {H : Hp} {a : Addr} {xs : List V} {lo hi : Option Int} {Q : VK} (W : KWOk K w) (al : ∀ b ∈ M, H b ≠ none) (ha : Tp M H a xs) (q : ∀ r H', Tp M H' r (cutV xs lo hi) → Adv [] H H' → Q (.ref r) H') : rSlA K (.ref a) lo hi H Q := by
  refine ⟨a, xs, rfl, ha.sq W, fun hw => ?_, fun _ p np => ?_⟩
  · have e : cutV xs lo hi = xs := by
      unfold cutV
      rw [hw.1, hw.2, List.drop_zero, Nat.sub_zero, List.take_length]
    exact q a H (by rw [e]; exact ha) (Adv.refl _ _)
  · exact q p _ (.inl ⟨fun z => al _ z np, upd_same⟩) (Adv.new np)
theorem of_four {M : List Addr} {H : Hp} {sh : Addr} {u1 u2 u3 : V} {x1 x2 x3 : List PyData} {Z D k : Nat} (k1 : 1 ≤ k) (k3 : k ≤ 3) (h1 : Is M H (.tuple x1) u1) (h2 : Is M H (.tuple x2) u2) (h3 : Is M H (.tuple x3) u3) (hZ : szL [.tuple x1, .tuple x2, .tuple x3] ≤ Z) (hD : depL [.tuple x1, .tuple x2, .tuple x3] ≤ D) :
    ∃ (a : Addr) (ws : List V) (xs : List PyData), [V.ref sh, u1, u2, u3][k]? = some (.ref a) ∧ Tp M H a ws ∧ IsDs M H xs ws ∧ 1 + szL xs ≤ Z ∧ 1 + depL xs ≤ D := by
  simp only [szL_cons, szL_nil, sz_tup] at hZ
  simp only [depL_cons, depL_nil, dep_tup] at hD
  obtain ⟨a1, w1, rfl, t1, i1⟩ := h1.tupE
  obtain ⟨a2, w2, rfl, t2, i2⟩ := h2.tupE
  obtain ⟨a3, w3, rfl, t3, i3⟩ := h3.tupE
  obtain rfl | rfl | rfl : k = 1 ∨ k = 2 ∨ k = 3 := by omega
  · exact ⟨a1, w1, x1, rfl, t1, i1, by omega, by omega⟩
  · exact ⟨a2, w2, x2, rfl, t2, i2, by omega, by omega⟩
  · exact ⟨a3, w3, x3, rfl, t3, i3, by omega, by omega⟩
theorem ok_law_bent (A : All K mg w) : FnOk P w K mg base CX0 3 A.law_bent.f A.law_bent.fd ["stream", "claim"] spBnt := by
  refine A.law_bent.F.ok sc_law_bent (fun vs H Q E h => ?_) (fun cdv Ar outer s H vs Q E hr h => ?_)
  · obtain ⟨M, st, v, ds, x1, x2, x3, Z, D, rfl, _⟩ := h.ex
    rfl
  · obtain ⟨M, st, v, ds, x1, x2, x3, Z, D, rfl, hv, hl, hZ, hD, D2, Z6, hs, ms, al, q⟩ := h.ex
    obtain ⟨t2, hb2, q2⟩ := bent2 (P := P) (base := base) (s := s) (outer := outer) (H := H) (E := E) A (hr.mono (by omega))
    refine ⟨_, (pss_cons (ps_set (i := 2) sc_law_bent.nd rfl (Or.inl rfl) (pe_ix ix_tup (pv 1) pe_int (fun _ _ => rfl)))
  (pss_cons (ps_set (i := 3) sc_law_bent.nd rfl (Or.inl rfl) (pe_callB call_len_seq (by rfl) A.T.len PySem.boot_len (pa_cons (pv 2) pa_nil)))
  (pss_cons (ps_set (i := 4) sc_law_bent.nd rfl (Or.inl rfl) (pe_call (ok_law_from A) (hr.mono (by omega)) rfl A.law_from.m A.law_from.F.kp A.law_from.b .nil pass0 (pa_cons (pv 0) (pa_cons pe_int (pa_cons pe_int pa_nil)))))
  (pss_cons (ps_set (i := 5) sc_law_bent.nd rfl (Or.inl rfl) (pe_ix ix_tup (pv 1) (pv 4) (fun _ _ => rfl)))
  (pss_cons (ps_set (i := 6) sc_law_bent.nd rfl (Or.inl rfl) (pe_call (ok_law_next A) (hr.mono (by omega)) rfl A.law_next.m A.law_next.F.kp A.law_next.b .nil pass0 (pa_cons (pv 0) (pa_cons (pe_op op_add (pv 3) pe_int) pa_nil))))
  (pss_cut (ps_set (i := 7) sc_law_bent.nd rfl (Or.inl rfl) (pe_lst (pa_cons (pe_callTy call_list_of (by rfl) A.T.list (by decide +kernel) (pa_cons (pv 5) pa_nil)) (pa_cons pe_non (pa_cons (pe_op op_catA (pv 5) (pe_tup (pa_cons (pv 3) pa_nil))) (pa_cons (pe_op op_catA (pe_tup (pa_cons (pe_un un_neg pe_int) pa_nil)) (pv 5)) (pa_cons (pe_op op_catA (pv 5) (pe_slice sl_tupA (pv 5) (po_some (pe_un un_neg pe_int)) po_none)) (pa_cons (pe_revT (pv 5)) (pa_cons (pe_tup (pa_cons pe_bl pa_nil)) (pa_cons (pe_tup (pa_cons pe_int (pa_cons pe_bl pa_nil))) (pa_cons (pe_tup (pa_cons pe_non pa_nil)) (pa_cons (pe_tup (pa_cons pe_str pa_nil)) (pa_cons (pe_tup (pa_cons (pv 5) pa_nil)) (pa_cons pe_dnewK (pa_cons (pv 6) (pa_cons pe_str (pa_cons (pe_tup (pa_cons (pv 6) (pa_cons (pv 6) pa_nil))) (pa_cons (pe_tup (pa_cons (pe_op op_add (pv 3) (pe_op op_pow pe_int pe_int)) pa_nil)) (pa_cons (pe_tupRg rfl rfl A.T.tuple (prg_1 rfl A.T.range (pv 3))) (pa_cons (pe_tup (pa_cons (pv 6) pa_nil)) (pa_cons (pe_tup (pa_cons pe_int (pa_cons pe_int pa_nil))) pa_nil)))))))))))))))))))))
  hb2)))))), ?_⟩
    obtain ⟨cl, vs4, rfl, T, hd⟩ := hv.tupE
    obtain ⟨u1, u2, u3, u4, rfl, h0, h1, h2, h3⟩ := IsDs.four hd
    obtain ⟨sh, rs, rfl, shM, hsh, hrd⟩ := h0.lstE
    have C : ClF M H cl sh u2 u3 u4 rs ds (.tuple x1) (.tuple x2) (.tuple x3) := ⟨T, hsh, shM, hrd, h1, h2, h3⟩
    have rl := hrd.len
    clear hv hd h0 h1 h2 h3 T hsh shM hrd
    have sq := C.T.sq A.W
    have sqs := C.hsh
    walk_at "rd"
    clear sqs
    refine ⟨st, 1, 3, M, rfl, hs, by decide, by decide, fun k G1 k0 k1 hs_ ax => ?_⟩
    have A0 := ax
    replace C := C.adv (ax.more fun b hb => by rw [List.mem_singleton.mp hb]; exact ms)
    replace al := alloc_adv al ax (by simpa using hs_.here)
    replace hs := hs_
    clear ax hs_
    clear sq
    obtain ⟨k, rfl⟩ : ∃ j : Nat, k = (j : Int) := ⟨k.toNat, by omega⟩
    obtain ⟨a, ws, xs, hk, Ta, R, zx, kx⟩ := of_four (sh := sh) (k := k) (Z := Z) (D := D) (by omega) (by omega) C.i1 C.i2 C.i3 (by simp only [szL_cons] at hZ ⊢; omega) (by simp only [depL_cons] at hD ⊢; omega)
    have wl := R.len
    have wz := sz_len xs
    have sq := C.T.sq A.W
    walk_at "rd"
    clear sq
    refine ⟨st, _, M, rfl, hs, by omega, by omega, fun at_ G2 at0 at1 hs_ ax => ?_⟩
    replace C := C.adv (ax.more fun b hb => by rw [List.mem_singleton.mp hb]; exact ms)
    replace al := alloc_adv al ax (by simpa using hs_.here)
    replace hs := hs_
    replace A0 := A0.trans ax
    replace Ta := Ta.adv (ax.more fun b hb => by rw [List.mem_singleton.mp hb]; exact ms)
    replace R := R.adv (ax.more fun b hb => by rw [List.mem_singleton.mp hb]; exact ms)
    clear ax hs_
    obtain ⟨at_, rfl⟩ : ∃ j : Nat, at_ = (j : Int) := ⟨at_.toNat, by omega⟩
    have F : Acc (2 * Z + 3100) (D + 1) M G2 [] := Acc.nil
    walk_at "rd"
    refine ⟨BntM M st H Z D, ?_, fun σ4 H4 x => q2 Q M st H Z D σ4 H4 x q⟩
    walk_at "rd"
    refine ⟨a, _, rfl, .inr (Ta.sq A.W), fun l nx => ?_⟩
    have ax : Adv [] G2 (upd G2 l (.lst ws)) := Adv.new nx
    have hl : (upd G2 l (.lst ws)) l = some (.lst ws) := upd_same
    have lM : l ∉ M := not_mem_new al nx
    have ls : l ≠ st := fun z => hs.here (by rw [← z]; exact nx)
    replace C := C.adv (Adv.nil ax)
    replace al := alloc_adv al ax (by simp)
    replace hs := hs.same ax
    replace A0 := A0.trans (Adv.nil ax)
    replace Ta := Ta.adv (Adv.nil ax)
    replace R := R.adv (Adv.nil ax)
    replace F := F.adv (Adv.nil ax)
    generalize (upd G2 l (.lst ws)) = G3 at ax hl C al hs A0 Ta R F
    clear ax nx
    replace F := F.snoc (v := .ref l) (d := .list xs) (Is.lst hl lM R) (by simp only [sz_tup, sz_lst, szL_app, szL_rev, szL_cons, szL_nil, sz1_none, sz1_str, sz1_int, sz1_bool, sz1_dict, nD_sz, List.length_range]; omega) (by simp only [dep_tup, dep_lst, depL_app, depL_rev, depL_cons, depL_nil, dep1_none, dep1_str, dep1_int, dep1_bool, dep1_dict, nD_dep]; omega)
    clear hl
    walk_at "rd"
    replace F := F.snoc (v := .non) (d := .none) (Is.non) (by simp only [sz_tup, sz_lst, szL_app, szL_rev, szL_cons, szL_nil, sz1_none, sz1_str, sz1_int, sz1_bool, sz1_dict, nD_sz, List.length_range]; omega) (by simp only [dep_tup, dep_lst, depL_app, depL_rev, depL_cons, depL_nil, dep1_none, dep1_str, dep1_int, dep1_bool, dep1_dict, nD_dep]; omega)
    refine ⟨by show 1 ≤ sizeLine; decide, fun p1 nx => ?_⟩
    have ax : Adv [] G3 (upd G3 p1 (.tup [.int (rs.length : Nat)])) := Adv.new nx
    have h1 : (upd G3 p1 (.tup [.int (rs.length : Nat)])) p1 = some (.tup [.int (rs.length : Nat)]) := upd_same
    have p1M : p1 ∉ M := not_mem_new al nx
    have p1s : p1 ≠ st := fun z => hs.here (by rw [← z]; exact nx)
    replace C := C.adv (Adv.nil ax)
    replace al := alloc_adv al ax (by simp)
    replace hs := hs.same ax
    replace A0 := A0.trans (Adv.nil ax)
    replace Ta := Ta.adv (Adv.nil ax)
    replace R := R.adv (Adv.nil ax)
    replace F := F.adv (Adv.nil ax)
    generalize (upd G3 p1 (.tup [.int (rs.length : Nat)])) = G4 at ax h1 C al hs A0 Ta R F
    clear ax nx
    walk_at "rd"
    refine rd_catM A.W al Ta (Tp.of h1 p1M) (by rw [sizeLine_eq, List.length_singleton]; omega) fun c1 G5 tc1 ax => ?_
    replace C := C.adv (Adv.nil ax)
    replace al := alloc_adv al ax (by simp)
    replace hs := hs.same ax
    replace A0 := A0.trans (Adv.nil ax)
    replace Ta := Ta.adv (Adv.nil ax)
    replace R := R.adv (Adv.nil ax)
    replace F := F.adv (Adv.nil ax)
    replace h1 := Adv.same ax _ _ h1
    clear ax
    replace F := F.snoc (v := .ref c1) (d := .tuple (xs ++ [.int (rs.length : Nat)])) (Is.tp tc1 (R.app (IsDs.one Is.int))) (by simp only [sz_tup, sz_lst, szL_app, szL_rev, szL_cons, szL_nil, sz1_none, sz1_str, sz1_int, sz1_bool, sz1_dict, nD_sz, List.length_range]; omega) (by simp only [dep_tup, dep_lst, depL_app, depL_rev, depL_cons, depL_nil, dep1_none, dep1_str, dep1_int, dep1_bool, dep1_dict, nD_dep]; omega)
    clear tc1 h1
    walk_at "rd"
    refine ⟨by show 1 ≤ sizeLine; decide, fun p2 nx => ?_⟩
    have ax : Adv [] G5 (upd G5 p2 (.tup [.int (-1)])) := Adv.new nx
    have h2 : (upd G5 p2 (.tup [.int (-1)])) p2 = some (.tup [.int (-1)]) := upd_same
    have p2M : p2 ∉ M := not_mem_new al nx
    have p2s : p2 ≠ st := fun z => hs.here (by rw [← z]; exact nx)
    replace C := C.adv (Adv.nil ax)
    replace al := alloc_adv al ax (by simp)
    replace hs := hs.same ax
    replace A0 := A0.trans (Adv.nil ax)
    replace Ta := Ta.adv (Adv.nil ax)
    replace R := R.adv (Adv.nil ax)
    replace F := F.adv (Adv.nil ax)
    generalize (upd G5 p2 (.tup [.int (-1)])) = G6 at ax h2 C al hs A0 Ta R F
    clear ax nx
    walk_at "rd"
    refine rd_catM A.W al (Tp.of h2 p2M) Ta (by rw [sizeLine_eq, List.length_singleton]; omega) fun c2 G7 tc2 ax => ?_
    replace C := C.adv (Adv.nil ax)
    replace al := alloc_adv al ax (by simp)
    replace hs := hs.same ax
    replace A0 := A0.trans (Adv.nil ax)
    replace Ta := Ta.adv (Adv.nil ax)
    replace R := R.adv (Adv.nil ax)
    replace F := F.adv (Adv.nil ax)
    replace h2 := Adv.same ax _ _ h2
    clear ax
    replace F := F.snoc (v := .ref c2) (d := .tuple ([.int (-1)] ++ xs)) (Is.tp tc2 ((IsDs.one Is.int).app R)) (by simp only [sz_tup, sz_lst, szL_app, szL_rev, szL_cons, szL_nil, sz1_none, sz1_str, sz1_int, sz1_bool, sz1_dict, nD_sz, List.length_range]; omega) (by simp only [dep_tup, dep_lst, depL_app, depL_rev, depL_cons, depL_nil, dep1_none, dep1_str, dep1_int, dep1_bool, dep1_dict, nD_dep]; omega)
    clear tc2 h2
    walk_at "rd"
    refine rd_slM A.W al Ta fun s5 G8 ts5 ax => ?_
    replace C := C.adv (Adv.nil ax)
    replace al := alloc_adv al ax (by simp)
    replace hs := hs.same ax
    replace A0 := A0.trans (Adv.nil ax)
    replace Ta := Ta.adv (Adv.nil ax)
    replace R := R.adv (Adv.nil ax)
    replace F := F.adv (Adv.nil ax)
    clear ax
    walk_at "rd"
    refine rd_catM A.W al Ta ts5 (by have := cutV_length ws (some (-1)) none; rw [sizeLine_eq]; omega) fun c5 G9 tc5 ax => ?_
    replace C := C.adv (Adv.nil ax)
    replace al := alloc_adv al ax (by simp)
    replace hs := hs.same ax
    replace A0 := A0.trans (Adv.nil ax)
    replace Ta := Ta.adv (Adv.nil ax)
    replace R := R.adv (Adv.nil ax)
    replace F := F.adv (Adv.nil ax)
    replace ts5 := ts5.adv (Adv.nil ax)
    clear ax
    have y1 := szL_take (xs.drop (HT.sIx ws.length 0 (some (-1)))) (HT.sIx ws.length ws.length none - HT.sIx ws.length 0 (some (-1)))
    have y2 := depL_take (xs.drop (HT.sIx ws.length 0 (some (-1)))) (HT.sIx ws.length ws.length none - HT.sIx ws.length 0 (some (-1)))
    have y3 := szL_dropX xs (HT.sIx ws.length 0 (some (-1)))
    have y4 := depL_dropX xs (HT.sIx ws.length 0 (some (-1)))
    replace F := F.snoc (v := .ref c5) (d := .tuple (xs ++ (xs.drop (HT.sIx ws.length 0 (some (-1)))).take (HT.sIx ws.length ws.length none - HT.sIx ws.length 0 (some (-1))))) (Is.tp tc5 (R.app (IsDs.take _ (R.drop _)))) (by simp only [sz_tup, sz_lst, szL_app, szL_rev, szL_cons, szL_nil, sz1_none, sz1_str, sz1_int, sz1_bool, sz1_dict, nD_sz, List.length_range]; omega) (by simp only [dep_tup, dep_lst, depL_app, depL_rev, depL_cons, depL_nil, dep1_none, dep1_str, dep1_int, dep1_bool, dep1_dict, nD_dep]; omega)
    clear tc5 ts5 y1 y2 y3 y4
    walk_at "rd"
    refine ⟨_, rfl, a, _, rfl, Ta.sq A.W, fun p6 nx => ?_⟩
    have ax : Adv [] G9 (upd G9 p6 (.tup ws.reverse)) := Adv.new nx
    have h6 : (upd G9 p6 (.tup ws.reverse)) p6 = some (.tup ws.reverse) := upd_same
    have p6M : p6 ∉ M := not_mem_new al nx
    have p6s : p6 ≠ st := fun z => hs.here (by rw [← z]; exact nx)
    replace C := C.adv (Adv.nil ax)
    replace al := alloc_adv al ax (by simp)
    replace hs := hs.same ax
    replace A0 := A0.trans (Adv.nil ax)
    replace Ta := Ta.adv (Adv.nil ax)
    replace R := R.adv (Adv.nil ax)
    replace F := F.adv (Adv.nil ax)
    generalize (upd G9 p6 (.tup ws.reverse)) = G10 at ax h6 C al hs A0 Ta R F
    clear ax nx
    replace F := F.snoc (v := .ref p6) (d := .tuple xs.reverse) (Is.tup h6 p6M (IsDs.rev R)) (by simp only [sz_tup, sz_lst, szL_app, szL_rev, szL_cons, szL_nil, sz1_none, sz1_str, sz1_int, sz1_bool, sz1_dict, nD_sz, List.length_range]; omega) (by simp only [dep_tup, dep_lst, depL_app, depL_rev, depL_cons, depL_nil, dep1_none, dep1_str, dep1_int, dep1_bool, dep1_dict, nD_dep]; omega)
    clear h6
    walk_at "rd"
    refine ⟨by show 1 ≤ sizeLine; decide, fun p7 nx => ?_⟩
    have ax : Adv [] G10 (upd G10 p7 (.tup [.bl true])) := Adv.new nx
    have h7 : (upd G10 p7 (.tup [.bl true])) p7 = some (.tup [.bl true]) := upd_same
    have p7M : p7 ∉ M := not_mem_new al nx
    have p7s : p7 ≠ st := fun z => hs.here (by rw [← z]; exact nx)
    replace C := C.adv (Adv.nil ax)
    replace al := alloc_adv al ax (by simp)
    replace hs := hs.same ax
    replace A0 := A0.trans (Adv.nil ax)
    replace Ta := Ta.adv (Adv.nil ax)
    replace R := R.adv (Adv.nil ax)
    replace F := F.adv (Adv.nil ax)
    generalize (upd G10 p7 (.tup [.bl true])) = G11 at ax h7 C al hs A0 Ta R F
    clear ax nx
    replace F := F.snoc (v := .ref p7) (d := .tuple [.bool true]) (Is.tup h7 p7M (IsDs.cons Is.bl IsDs.nil)) (by simp only [sz_tup, sz_lst, szL_app, szL_rev, szL_cons, szL_nil, sz1_none, sz1_str, sz1_int, sz1_bool, sz1_dict, nD_sz, List.length_range]; omega) (by simp only [dep_tup, dep_lst, depL_app, depL_rev, depL_cons, depL_nil, dep1_none, dep1_str, dep1_int, dep1_bool, dep1_dict, nD_dep]; omega)
    clear h7
    walk_at "rd"
    refine ⟨by show 2 ≤ sizeLine; decide, fun p8 nx => ?_⟩
    have ax : Adv [] G11 (upd G11 p8 (.tup [.int 0, .bl true])) := Adv.new nx
    have h8 : (upd G11 p8 (.tup [.int 0, .bl true])) p8 = some (.tup [.int 0, .bl true]) := upd_same
    have p8M : p8 ∉ M := not_mem_new al nx
    have p8s : p8 ≠ st := fun z => hs.here (by rw [← z]; exact nx)
    replace C := C.adv (Adv.nil ax)
    replace al := alloc_adv al ax (by simp)
    replace hs := hs.same ax
    replace A0 := A0.trans (Adv.nil ax)
    replace Ta := Ta.adv (Adv.nil ax)
    replace R := R.adv (Adv.nil ax)
    replace F := F.adv (Adv.nil ax)
    generalize (upd G11 p8 (.tup [.int 0, .bl true])) = G12 at ax h8 C al hs A0 Ta R F
    clear ax nx
    replace F := F.snoc (v := .ref p8) (d := .tuple [.int 0, .bool true]) (Is.tup h8 p8M (IsDs.cons Is.int (IsDs.cons Is.bl IsDs.nil))) (by simp only [sz_tup, sz_lst, szL_app, szL_rev, szL_cons, szL_nil, sz1_none, sz1_str, sz1_int, sz1_bool, sz1_dict, nD_sz, List.length_range]; omega) (by simp only [dep_tup, dep_lst, depL_app, depL_rev, depL_cons, depL_nil, dep1_none, dep1_str, dep1_int, dep1_bool, dep1_dict, nD_dep]; omega)
    clear h8
    walk_at "rd"
    refine ⟨by show 1 ≤ sizeLine; decide, fun p9 nx => ?_⟩
    have ax : Adv [] G12 (upd G12 p9 (.tup [.non])) := Adv.new nx
    have h9 : (upd G12 p9 (.tup [.non])) p9 = some (.tup [.non]) := upd_same
    have p9M : p9 ∉ M := not_mem_new al nx
    have p9s : p9 ≠ st := fun z => hs.here (by rw [← z]; exact nx)
    replace C := C.adv (Adv.nil ax)
    replace al := alloc_adv al ax (by simp)
    replace hs := hs.same ax
    replace A0 := A0.trans (Adv.nil ax)
    replace Ta := Ta.adv (Adv.nil ax)
    replace R := R.adv (Adv.nil ax)
    replace F := F.adv (Adv.nil ax)
    generalize (upd G12 p9 (.tup [.non])) = G13 at ax h9 C al hs A0 Ta R F
    clear ax nx
    replace F := F.snoc (v := .ref p9) (d := .tuple [.none]) (Is.tup h9 p9M (IsDs.cons Is.non IsDs.nil)) (by simp only [sz_tup, sz_lst, szL_app, szL_rev, szL_cons, szL_nil, sz1_none, sz1_str, sz1_int, sz1_bool, sz1_dict, nD_sz, List.length_range]; omega) (by simp only [dep_tup, dep_lst, depL_app, depL_rev, depL_cons, depL_nil, dep1_none, dep1_str, dep1_int, dep1_bool, dep1_dict, nD_dep]; omega)
    clear h9
    walk_at "rd"
    refine ⟨by show 1 ≤ sizeLine; decide, fun p10 nx => ?_⟩
    have ax : Adv [] G13 (upd G13 p10 (.tup [.str "0"])) := Adv.new nx
    have h10 : (upd G13 p10 (.tup [.str "0"])) p10 = some (.tup [.str "0"]) := upd_same
    have p10M : p10 ∉ M := not_mem_new al nx
    have p10s : p10 ≠ st := fun z => hs.here (by rw [← z]; exact nx)
    replace C := C.adv (Adv.nil ax)
    replace al := alloc_adv al ax (by simp)
    replace hs := hs.same ax
    replace A0 := A0.trans (Adv.nil ax)
    replace Ta := Ta.adv (Adv.nil ax)
    replace R := R.adv (Adv.nil ax)
    replace F := F.adv (Adv.nil ax)
    generalize (upd G13 p10 (.tup [.str "0"])) = G14 at ax h10 C al hs A0 Ta R F
    clear ax nx
    replace F := F.snoc (v := .ref p10) (d := .tuple [.str "0"]) (Is.tup h10 p10M (IsDs.cons Is.str IsDs.nil)) (by simp only [sz_tup, sz_lst, szL_app, szL_rev, szL_cons, szL_nil, sz1_none, sz1_str, sz1_int, sz1_bool, sz1_dict, nD_sz, List.length_range]; omega) (by simp only [dep_tup, dep_lst, depL_app, depL_rev, depL_cons, depL_nil, dep1_none, dep1_str, dep1_int, dep1_bool, dep1_dict, nD_dep]; omega)
    clear h10
    walk_at "rd"
    refine ⟨by show 1 ≤ sizeLine; decide, fun p11 nx => ?_⟩
    have ax : Adv [] G14 (upd G14 p11 (.tup [.ref a])) := Adv.new nx
    have h11 : (upd G14 p11 (.tup [.ref a])) p11 = some (.tup [.ref a]) := upd_same
    have p11M : p11 ∉ M := not_mem_new al nx
    have p11s : p11 ≠ st := fun z => hs.here (by rw [← z]; exact nx)
    replace C := C.adv (Adv.nil ax)
    replace al := alloc_adv al ax (by simp)
    replace hs := hs.same ax
    replace A0 := A0.trans (Adv.nil ax)
    replace Ta := Ta.adv (Adv.nil ax)
    replace R := R.adv (Adv.nil ax)
    replace F := F.adv (Adv.nil ax)
    generalize (upd G14 p11 (.tup [.ref a])) = G15 at ax h11 C al hs A0 Ta R F
    clear ax nx
    replace F := F.snoc (v := .ref p11) (d := .tuple [.tuple xs]) (Is.tup h11 p11M (IsDs.cons (Is.tp Ta R) IsDs.nil)) (by simp only [sz_tup, sz_lst, szL_app, szL_rev, szL_cons, szL_nil, sz1_none, sz1_str, sz1_int, sz1_bool, sz1_dict, nD_sz, List.length_range]; omega) (by simp only [dep_tup, dep_lst, depL_app, depL_rev, depL_cons, depL_nil, dep1_none, dep1_str, dep1_int, dep1_bool, dep1_dict, nD_dep]; omega)
    clear h11
    walk_at "rd"
    intro dk nx
    have ax : Adv [] G15 (upd G15 dk (.dK [])) := Adv.new nx
    have hdk : (upd G15 dk (.dK [])) dk = some (.dK []) := upd_same
    have dkM : dk ∉ M := not_mem_new al nx
    have dks : dk ≠ st := fun z => hs.here (by rw [← z]; exact nx)
    replace C := C.adv (Adv.nil ax)
    replace al := alloc_adv al ax (by simp)
    replace hs := hs.same ax
    replace A0 := A0.trans (Adv.nil ax)
    replace Ta := Ta.adv (Adv.nil ax)
    replace R := R.adv (Adv.nil ax)
    replace F := F.adv (Adv.nil ax)
    generalize (upd G15 dk (.dK [])) = G16 at ax hdk C al hs A0 Ta R F
    clear ax nx
    replace F := F.snoc (v := .ref dk) (d := .dict []) (Is.dic hdk dkM) (by simp only [sz_tup, sz_lst, szL_app, szL_rev, szL_cons, szL_nil, sz1_none, sz1_str, sz1_int, sz1_bool, sz1_dict, nD_sz, List.length_range]; omega) (by simp only [dep_tup, dep_lst, depL_app, depL_rev, depL_cons, depL_nil, dep1_none, dep1_str, dep1_int, dep1_bool, dep1_dict, nD_dep]; omega)
    clear hdk
    walk_at "rd"
    replace F := F.snoc (v := .int (at_ : Nat)) (d := .int (at_ : Nat)) (Is.int) (by simp only [sz_tup, sz_lst, szL_app, szL_rev, szL_cons, szL_nil, sz1_none, sz1_str, sz1_int, sz1_bool, sz1_dict, nD_sz, List.length_range]; omega) (by simp only [dep_tup, dep_lst, depL_app, depL_rev, depL_cons, depL_nil, dep1_none, dep1_str, dep1_int, dep1_bool, dep1_dict, nD_dep]; omega)
    replace F := F.snoc (v := .str "0") (d := .str "0") (Is.str) (by simp only [sz_tup, sz_lst, szL_app, szL_rev, szL_cons, szL_nil, sz1_none, sz1_str, sz1_int, sz1_bool, sz1_dict, nD_sz, List.length_range]; omega) (by simp only [dep_tup, dep_lst, depL_app, depL_rev, depL_cons, depL_nil, dep1_none, dep1_str, dep1_int, dep1_bool, dep1_dict, nD_dep]; omega)
    refine ⟨by show 2 ≤ sizeLine; decide, fun p15 nx => ?_⟩
    have ax : Adv [] G16 (upd G16 p15 (.tup [.int (at_ : Nat), .int (at_ : Nat)])) := Adv.new nx
    have h15 : (upd G16 p15 (.tup [.int (at_ : Nat), .int (at_ : Nat)])) p15 = some (.tup [.int (at_ : Nat), .int (at_ : Nat)]) := upd_same
    have p15M : p15 ∉ M := not_mem_new al nx
    have p15s : p15 ≠ st := fun z => hs.here (by rw [← z]; exact nx)
    replace C := C.adv (Adv.nil ax)
    replace al := alloc_adv al ax (by simp)
    replace hs := hs.same ax
    replace A0 := A0.trans (Adv.nil ax)
    replace Ta := Ta.adv (Adv.nil ax)
    replace R := R.adv (Adv.nil ax)
    replace F := F.adv (Adv.nil ax)
    generalize (upd G16 p15 (.tup [.int (at_ : Nat), .int (at_ : Nat)])) = G17 at ax h15 C al hs A0 Ta R F
    clear ax nx
    replace F := F.snoc (v := .ref p15) (d := .tuple [.int (at_ : Nat), .int (at_ : Nat)]) (Is.tup h15 p15M (IsDs.cons Is.int (IsDs.cons Is.int IsDs.nil))) (by simp only [sz_tup, sz_lst, szL_app, szL_rev, szL_cons, szL_nil, sz1_none, sz1_str, sz1_int, sz1_bool, sz1_dict, nD_sz, List.length_range]; omega) (by simp only [dep_tup, dep_lst, depL_app, depL_rev, depL_cons, depL_nil, dep1_none, dep1_str, dep1_int, dep1_bool, dep1_dict, nD_dep]; omega)
    clear h15
    walk_at "rd"
    refine ⟨10, 20, rfl, rfl, ⟨by decide, by decide, by decide⟩, ?_⟩
    walk_at "rd"
    refine ⟨by show 1 ≤ sizeLine; decide, fun p16 nx => ?_⟩
    have ax : Adv [] G17 (upd G17 p16 (.tup [.int ((rs.length : Nat) + 10 ^ Int.toNat 20)])) := Adv.new nx
    have h16 : (upd G17 p16 (.tup [.int ((rs.length : Nat) + 10 ^ Int.toNat 20)])) p16 = some (.tup [.int ((rs.length : Nat) + 10 ^ Int.toNat 20)]) := upd_same
    have p16M : p16 ∉ M := not_mem_new al nx
    have p16s : p16 ≠ st := fun z => hs.here (by rw [← z]; exact nx)
    replace C := C.adv (Adv.nil ax)
    replace al := alloc_adv al ax (by simp)
    replace hs := hs.same ax
    replace A0 := A0.trans (Adv.nil ax)
    replace Ta := Ta.adv (Adv.nil ax)
    replace R := R.adv (Adv.nil ax)
    replace F := F.adv (Adv.nil ax)
    generalize (upd G17 p16 (.tup [.int ((rs.length : Nat) + 10 ^ Int.toNat 20)])) = G18 at ax h16 C al hs A0 Ta R F
    clear ax nx
    replace F := F.snoc (v := .ref p16) (d := .tuple [.int ((rs.length : Nat) + 10 ^ Int.toNat 20)]) (Is.tup h16 p16M (IsDs.cons Is.int IsDs.nil)) (by simp only [sz_tup, sz_lst, szL_app, szL_rev, szL_cons, szL_nil, sz1_none, sz1_str, sz1_int, sz1_bool, sz1_dict, nD_sz, List.length_range]; omega) (by simp only [dep_tup, dep_lst, depL_app, depL_rev, depL_cons, depL_nil, dep1_none, dep1_str, dep1_int, dep1_bool, dep1_dict, nD_dep]; omega)
    clear h16
    walk_at "rd"
    unfold tTupRg tRg1
    walk_at "rd"
    refine ⟨.of_le (by omega) (by omega) (by omega) (by omega), fun p17 nx => ?_⟩
    rw [rg_nat] at *
    have ax : Adv [] G18 (upd G18 p17 (.tup (nVl (List.range rs.length)))) := Adv.new nx
    have h17 : (upd G18 p17 (.tup (nVl (List.range rs.length)))) p17 = some (.tup (nVl (List.range rs.length))) := upd_same
    have p17M : p17 ∉ M := not_mem_new al nx
    have p17s : p17 ≠ st := fun z => hs.here (by rw [← z]; exact nx)
    replace C := C.adv (Adv.nil ax)
    replace al := alloc_adv al ax (by simp)
    replace hs := hs.same ax
    replace A0 := A0.trans (Adv.nil ax)
    replace Ta := Ta.adv (Adv.nil ax)
    replace R := R.adv (Adv.nil ax)
    replace F := F.adv (Adv.nil ax)
    generalize (upd G18 p17 (.tup (nVl (List.range rs.length)))) = G19 at ax h17 C al hs A0 Ta R F
    clear ax nx
    replace F := F.snoc (v := .ref p17) (d := .tuple (nD (List.range rs.length))) (Is.tup h17 p17M (nD_is _)) (by simp only [sz_tup, sz_lst, szL_app, szL_rev, szL_cons, szL_nil, sz1_none, sz1_str, sz1_int, sz1_bool, sz1_dict, nD_sz, List.length_range]; omega) (by simp only [dep_tup, dep_lst, depL_app, depL_rev, depL_cons, depL_nil, dep1_none, dep1_str, dep1_int, dep1_bool, dep1_dict, nD_dep]; omega)
    clear h17
    walk_at "rd"
    refine ⟨by show 1 ≤ sizeLine; decide, fun p18 nx => ?_⟩
    have ax : Adv [] G19 (upd G19 p18 (.tup [.int (at_ : Nat)])) := Adv.new nx
    have h18 : (upd G19 p18 (.tup [.int (at_ : Nat)])) p18 = some (.tup [.int (at_ : Nat)]) := upd_same
    have p18M : p18 ∉ M := not_mem_new al nx
    have p18s : p18 ≠ st := fun z => hs.here (by rw [← z]; exact nx)
    replace C := C.adv (Adv.nil ax)
    replace al := alloc_adv al ax (by simp)
    replace hs := hs.same ax
    replace A0 := A0.trans (Adv.nil ax)
    replace Ta := Ta.adv (Adv.nil ax)
    replace R := R.adv (Adv.nil ax)
    replace F := F.adv (Adv.nil ax)
    generalize (upd G19 p18 (.tup [.int (at_ : Nat)])) = G20 at ax h18 C al hs A0 Ta R F
    clear ax nx
    replace F := F.snoc (v := .ref p18) (d := .tuple [.int (at_ : Nat)]) (Is.tup h18 p18M (IsDs.cons Is.int IsDs.nil)) (by simp only [sz_tup, sz_lst, szL_app, szL_rev, szL_cons, szL_nil, sz1_none, sz1_str, sz1_int, sz1_bool, sz1_dict, nD_sz, List.length_range]; omega) (by simp only [dep_tup, dep_lst, depL_app, depL_rev, depL_cons, depL_nil, dep1_none, dep1_str, dep1_int, dep1_bool, dep1_dict, nD_dep]; omega)
    clear h18
    walk_at "rd"
    refine ⟨by show 2 ≤ sizeLine; decide, fun p19 nx => ?_⟩
    have ax : Adv [] G20 (upd G20 p19 (.tup [.int 0, .int 1])) := Adv.new nx
    have h19 : (upd G20 p19 (.tup [.int 0, .int 1])) p19 = some (.tup [.int 0, .int 1]) := upd_same
    have p19M : p19 ∉ M := not_mem_new al nx
    have p19s : p19 ≠ st := fun z => hs.here (by rw [← z]; exact nx)
    replace C := C.adv (Adv.nil ax)
    replace al := alloc_adv al ax (by simp)
    replace hs := hs.same ax
    replace A0 := A0.trans (Adv.nil ax)
    replace Ta := Ta.adv (Adv.nil ax)
    replace R := R.adv (Adv.nil ax)
    replace F := F.adv (Adv.nil ax)
    generalize (upd G20 p19 (.tup [.int 0, .int 1])) = G21 at ax h19 C al hs A0 Ta R F
    clear ax nx
    replace F := F.snoc (v := .ref p19) (d := .tuple [.int 0, .int 1]) (Is.tup h19 p19M (IsDs.cons Is.int (IsDs.cons Is.int IsDs.nil))) (by simp only [sz_tup, sz_lst, szL_app, szL_rev, szL_cons, szL_nil, sz1_none, sz1_str, sz1_int, sz1_bool, sz1_dict, nD_sz, List.length_range]; omega) (by simp only [dep_tup, dep_lst, depL_app, depL_rev, depL_cons, depL_nil, dep1_none, dep1_str, dep1_int, dep1_bool, dep1_dict, nD_dep]; omega)
    clear h19
    walk_at "rd"
    refine ⟨by show 19 ≤ sizeLine; decide, fun od nx => ?_⟩
    have ax : Adv [] G21 (upd G21 od (.lst [.ref l, .non, .ref c1, .ref c2, .ref c5, .ref p6, .ref p7, .ref p8, .ref p9, .ref p10, .ref p11, .ref dk, .int (at_ : Nat), .str "0", .ref p15, .ref p16, .ref p17, .ref p18, .ref p19])) := Adv.new nx
    have hod : (upd G21 od (.lst [.ref l, .non, .ref c1, .ref c2, .ref c5, .ref p6, .ref p7, .ref p8, .ref p9, .ref p10, .ref p11, .ref dk, .int (at_ : Nat), .str "0", .ref p15, .ref p16, .ref p17, .ref p18, .ref p19])) od = some (.lst [.ref l, .non, .ref c1, .ref c2, .ref c5, .ref p6, .ref p7, .ref p8, .ref p9, .ref p10, .ref p11, .ref dk, .int (at_ : Nat), .str "0", .ref p15, .ref p16, .ref p17, .ref p18, .ref p19]) := upd_same
    have odM : od ∉ M := not_mem_new al nx
    have ods : od ≠ st := fun z => hs.here (by rw [← z]; exact nx)
    replace C := C.adv (Adv.nil ax)
    replace al := alloc_adv al ax (by simp)
    replace hs := hs.same ax
    replace A0 := A0.trans (Adv.nil ax)
    replace Ta := Ta.adv (Adv.nil ax)
    replace R := R.adv (Adv.nil ax)
    replace F := F.adv (Adv.nil ax)
    generalize (upd G21 od (.lst [.ref l, .non, .ref c1, .ref c2, .ref c5, .ref p6, .ref p7, .ref p8, .ref p9, .ref p10, .ref p11, .ref dk, .int (at_ : Nat), .str "0", .ref p15, .ref p16, .ref p17, .ref p18, .ref p19])) = G22 at ax hod C al hs A0 Ta R F
    clear ax nx
    walk_at "rd"
    exact ⟨⟨cl, sh, od, u2, u3, u4, _, rs, [.ref l, .non, .ref c1, .ref c2, .ref c5, .ref p6, .ref p7, .ref p8, .ref p9, .ref p10, .ref p11, .ref dk, .int (at_ : Nat), .str "0", .ref p15, .ref p16, .ref p17, .ref p18, .ref p19], ds, _, _, _, k, at_, rfl, by omega, by omega, by omega, by omega, C, hZ, hD, D2, hod, ods, by simp, by simp, F, ms, al, hs, A0⟩⟩
end

set_option Elab.async false
set_option linter.all false
set_option maxRecDepth 100000
set_option maxHeartbeats 4000000
open PySem PySem.Spec PyProof.Rows L2 LL
open C8 (pss_cut)
section
variable [KW]
variable {P : Program} {w : World} {K : PySem.W.Frag} {mg : Str → Option Value} {base : Heap}
theorem nam_L {Z : Exs K mg} (N : NF Z "BadLogic") : Nam K mg Z "BadLogic" := ⟨N, 0, rfl, by decide, rfl, fun m hm z hz => absurd hm (Nat.not_lt_zero m)⟩
theorem nam_S {Z : Exs K mg} (N : NF Z "BadSheet") : Nam K mg Z "BadSheet" := ⟨N, 1, rfl, by decide, rfl, fun m hm z hz => by obtain rfl : m = 0 := by { omega }; cases hz; decide⟩
theorem nam_C {Z : Exs K mg} (N : NF Z "BadClaim") : Nam K mg Z "BadClaim" := ⟨N, 2, rfl, by decide, rfl, fun m hm z hz => by
  have : m = 0 ∨ m = 1 := by omega
  rcases this with rfl | rfl <;> (cases hz; decide)⟩
/-! ### _law_ask -/
def wdS (keys : Bool) : Str := if keys then "keys" else "check"
/-- what is told if nothing is wrong -/
def tdD (keys : Bool) (x : Str) (ns : List Nd) (rows : List Nat) : PyData := .list [.str "told", if keys then .tuple (nD (keysF x ns rows)) else .none]
structure AskP (vs : List V) (H : Hp) (Q : VK) : Prop where
  ex : ∃ (M : List Addr) (keys : Bool) (x : Str) (v : V) (d : PyData), vs = [.str (wdS keys), .str x, v] ∧ (∀ b ∈ M, H b ≠ none) ∧ Is M H d v ∧ sz d ≤ 200000 ∧
    (reD x d ≠ .none → ∀ y H', Is M H' (reD x d) y → Adv [] H H' → Q y H') ∧ (reD x d = .none → ∀ ns th le ri, d = clmD ns th le ri → ∀ y H', Is M H' (tdD keys x ns (th ++ le ++ ri)) y → Adv [] H H' → Q y H')
def spAsk : Sp := fun vs H Q _ => AskP vs H Q
theorem re_L {x : Str} {d : PyData} (h : logicOk x = false) : reD x d = .list [.str "other", .str "BadLogic"] := if_pos h
theorem re_S {x : Str} {d : PyData} {i : Int} (h : logicOk x = true) (e : claimM 60 (logicB x) d = cw "BadSheet" (.int i)) : reD x d = .list [.str "sheet", .int i, .str "BadSheet"] := by
  unfold reD
  rw [if_neg (by rw [h]; decide), e]
  exact if_pos rfl
theorem re_C {x : Str} {d : PyData} {z : Str} (h : logicOk x = true) (e : claimM 60 (logicB x) d = cw "BadClaim" (.str z)) : reD x d = .list [.str "claim", .str z, .str "BadClaim"] := by
  unfold reD
  rw [if_neg (by rw [h]; decide), e]
  exact if_neg (by decide)
theorem re_N {x : Str} {d : PyData} (h : logicOk x = true) (e : claimM 60 (logicB x) d = none) : reD x d = .none := by
  unfold reD
  rw [if_neg (by rw [h]; decide), e]
theorem re_none {x : Str} {d : PyData} (e : reD x d = .none) : logicOk x = true ∧ claimM 60 (logicB x) d = none := by
  unfold reD at e
  by_cases h : logicOk x = false
  · rw [if_pos h] at e; cases e
  · refine ⟨by simpa using h, ?_⟩
    rw [if_neg h] at e
    cases k : claimM 60 (logicB x) d with
    | none => rfl
    | some p =>
      obtain ⟨c, y⟩ := p
      rw [k] at e
      have e' : (if c = "BadSheet" then PyData.list [.str "sheet", y, .str "BadSheet"] else .list [.str "claim", y, .str "BadClaim"]) = .none := e
      split at e' <;> cases e'
theorem ok_law_ask (A : All K mg w) (Z : Exs K mg) (ZL : Er_BadLogic Z) (Z1 : Er_BadSheet Z) (Z3 : Er_BadClaim Z) : FnOk P w K mg base CX0 9 A.law_ask.f A.law_ask.fd ["word", "logic", "claim"] spAsk := by
  refine A.law_ask.F.ok sc_law_ask (fun vs H Q E h => ?_) (fun cdv Ar outer s H vs Q E hr h => ?_)
  · obtain ⟨M, k, x, v, d, rfl, _⟩ := h.ex
    rfl
  · obtain ⟨M, k, x, v, d, rfl, hal, hv, hz, q1, q2⟩ := h.ex
    refine ⟨_, (pss_cons (ps_tryAs (n := "e") (i := 4) (Wout := fun _ _ _ _ => False) rfl rfl sc_law_ask.nd rfl rfl takes_no
    (fun W pn xe tk po => (pss_one (ps_set (i := 3) sc_law_ask.nd rfl (Or.inl rfl) (pe_ifExp (pt_cmpR op_eq (pv 0) pe_str (nomark _)) (pe_callS (ok_check_claim A Z ZL Z1 Z3) (hr.mono (by omega)) rfl A.check_claim.m A.check_claim.F.kp A.check_claim.b (fun σ => L2N.passAt tk σ) (pa_cons (pv 1) (pa_cons (pv 2) pa_nil))) (pe_callS (ok_keys_of A Z ZL Z1 Z3) (hr.mono (by omega)) rfl A.keys_of.m A.keys_of.F.kp A.keys_of.b (fun σ => L2N.passAt tk σ) (pa_cons (pv 1) (pa_cons (pv 2) pa_nil)))))))
    (.cons (c := .ref (Z.cA "BadClaim")) ⟨rfl, by decide, .inl (Z.mA "BadClaim" (by decide))⟩ (fun a oe cls d pn hz hf => (pss_one (ps_ret (pe_lst (pa_cons pe_str (pa_cons (pe_xf Z3.X Z3.A_ hz.zc hf (pv 4)) (pa_cons (pe_named (X := (cxOf CX0 P w K mg base ["word", "logic", "claim", "answer", "e"] "_law_ask" (defScope s_law_ask) A.law_ask.f cdv Ar outer s H E).nox) (pn := pn) A Z (hr.mono (by omega)) (by rfl) hz.zc hf (pv 4)) pa_nil))))))) (.cons (c := .ref (Z.cA "BadSheet")) ⟨rfl, by decide, .inl (Z.mA "BadSheet" (by decide))⟩ (fun a oe cls d pn hz hf => (pss_one (ps_ret (pe_lst (pa_cons pe_str (pa_cons (pe_xf Z1.X Z1.A_ hz.zc hf (pv 4)) (pa_cons (pe_named (X := (cxOf CX0 P w K mg base ["word", "logic", "claim", "answer", "e"] "_law_ask" (defScope s_law_ask) A.law_ask.f cdv Ar outer s H E).nox) (pn := pn) A Z (hr.mono (by omega)) (by rfl) hz.zc hf (pv 4)) pa_nil))))))) (.cons (c := .ref Z.CE) ⟨rfl, by decide, .inl Z.mC⟩ (fun a oe cls d pn hz hf => (pss_one (ps_ret (pe_lst (pa_cons pe_str (pa_cons (pe_named (X := (cxOf CX0 P w K mg base ["word", "logic", "claim", "answer", "e"] "_law_ask" (defScope s_law_ask) A.law_ask.f cdv Ar outer s H E).nox) (pn := pn) A Z (hr.mono (by omega)) (by rfl) hz.zc hf (pv 4)) pa_nil)))))) .nil))))
  (pss_one (ps_ret (pe_lst (pa_cons pe_str (pa_cons (pv 3) pa_nil)))))), ?_⟩
    have raiL : ∀ {p : Addr} {H3 : Hp}, logicOk x = false → Adv [] H H3 → H3 p = none → Q (.ref p) (upd H3 p (.lst [.str "other", .str "BadLogic"])) := fun {p H3} e a3 np => by
      refine q1 (by rw [re_L e]; exact fun z => nomatch z) _ _ ?_ (a3.newT np)
      rw [re_L e]
      exact Is.lst upd_same (not_mem_new (alloc_adv hal a3 (by simp)) np) (.cons .str (.cons .str .nil))
    have raiS : ∀ {i : Int} {p : Addr} {H3 : Hp}, logicOk x = true → claimM 60 (logicB x) d = cw "BadSheet" (.int i) → Adv [] H H3 → H3 p = none → Q (.ref p) (upd H3 p (.lst [.str "sheet", .int i, .str "BadSheet"])) := fun {i p H3} e e2 a3 np => by
      refine q1 (by rw [re_S e e2]; exact fun z => nomatch z) _ _ ?_ (a3.newT np)
      rw [re_S e e2]
      exact Is.lst upd_same (not_mem_new (alloc_adv hal a3 (by simp)) np) (.cons .str (.cons .int (.cons .str .nil)))
    have raiC : ∀ {z : Str} {p : Addr} {H3 : Hp}, logicOk x = true → claimM 60 (logicB x) d = cw "BadClaim" (.str z) → Adv [] H H3 → H3 p = none → Q (.ref p) (upd H3 p (.lst [.str "claim", .str z, .str "BadClaim"])) := fun {z p H3} e e2 a3 np => by
      refine q1 (by rw [re_C e e2]; exact fun z => nomatch z) _ _ ?_ (a3.newT np)
      rw [re_C e e2]
      exact Is.lst upd_same (not_mem_new (alloc_adv hal a3 (by simp)) np) (.cons .str (.cons .str (.cons .str .nil)))
    walk_at "rd"
    cases k with
    | false =>
      walk_at "rd"
      refine ⟨x, v, rfl, ⟨d, hv.less (by simp), by omega, fun ex => ?_, fun ex => ⟨fun i e dd H2 a2 n2 hdd => ?_, fun z e dd H2 a2 n2 hdd => ?_, fun e H2 a2 => ?_⟩⟩⟩
      · refine ⟨false, ZL.N.hX "BadClaim" (by decide), (fun z => nomatch z), fun _ => ⟨false, ZL.N.hX "BadSheet" (by decide), (fun z => nomatch z), fun _ => ⟨true, ZL.N.hC, fun _ a na => ?_, (fun z => nomatch z)⟩⟩⟩
        refine ⟨_, rfl, rfl, "BadLogic", nam_L ZL.N, rfl, (fun dd z => nomatch z), fun H3 a3 => ?_⟩
        walk_at "rd"
        refine ⟨by show 2 ≤ sizeLine; decide, fun p np => ?_⟩
        exact raiL ex a3 np
      · refine ⟨false, Z1.N.hX "BadClaim" (by decide), (fun z => nomatch z), fun _ => ⟨true, Z1.N.hX "BadSheet" (by decide), fun _ a na => ?_, (fun z => nomatch z)⟩⟩
        refine ⟨_, rfl, ?_⟩
        walk_at "rd"
        refine ⟨dd, _, .int i, rfl, hdd, rfl, ?_⟩
        walk_at "rd"
        refine ⟨_, rfl, rfl, "BadSheet", nam_S Z1.N, rfl, fun dd' z => ⟨_, by cases z; exact hdd⟩, fun H3 a3 => ?_⟩
        walk_at "rd"
        refine ⟨by show 3 ≤ sizeLine; decide, fun p np => ?_⟩
        exact raiS ex e (a2.trans a3) np
      · refine ⟨true, Z3.N.hX "BadClaim" (by decide), fun _ a na => ?_, (fun z => nomatch z)⟩
        refine ⟨_, rfl, ?_⟩
        walk_at "rd"
        refine ⟨dd, _, .str z, rfl, hdd, rfl, ?_⟩
        walk_at "rd"
        refine ⟨_, rfl, rfl, "BadClaim", nam_C Z3.N, rfl, fun dd' z => ⟨_, by cases z; exact hdd⟩, fun H3 a3 => ?_⟩
        walk_at "rd"
        refine ⟨by show 3 ≤ sizeLine; decide, fun p np => ?_⟩
        exact raiC ex e (a2.trans a3) np
      · walk_at "rd"
        refine ⟨by show 2 ≤ sizeLine; decide, fun p np => ?_⟩
        obtain ⟨ns, th, le, ri, rfl, _⟩ := claimM_none (by decide) e
        exact q2 (re_N ex e) ns th le ri rfl _ _ (Is.lst upd_same (not_mem_new (alloc_adv hal a2 (by simp)) np) (.cons .str (.cons .non .nil))) (a2.newT np)
    | true =>
      walk_at "rd"
      refine ⟨⟨M, x, v, d, rfl, hal, hv, hz, fun ex => ?_, fun ex => ⟨fun i e dd H2 a2 n2 hdd => ?_, fun z e dd H2 a2 n2 hdd => ?_, fun e ns th le ri ed y H2 hy a2 => ?_⟩⟩⟩
      · refine ⟨false, ZL.N.hX "BadClaim" (by decide), (fun z => nomatch z), fun _ => ⟨false, ZL.N.hX "BadSheet" (by decide), (fun z => nomatch z), fun _ => ⟨true, ZL.N.hC, fun _ a na => ?_, (fun z => nomatch z)⟩⟩⟩
        refine ⟨_, rfl, rfl, "BadLogic", nam_L ZL.N, rfl, (fun dd z => nomatch z), fun H3 a3 => ?_⟩
        walk_at "rd"
        refine ⟨by show 2 ≤ sizeLine; decide, fun p np => ?_⟩
        exact raiL ex a3 np
      · refine ⟨false, Z1.N.hX "BadClaim" (by decide), (fun z => nomatch z), fun _ => ⟨true, Z1.N.hX "BadSheet" (by decide), fun _ a na => ?_, (fun z => nomatch z)⟩⟩
        refine ⟨_, rfl, ?_⟩
        walk_at "rd"
        refine ⟨dd, _, .int i, rfl, hdd, rfl, ?_⟩
        walk_at "rd"
        refine ⟨_, rfl, rfl, "BadSheet", nam_S Z1.N, rfl, fun dd' z => ⟨_, by cases z; exact hdd⟩, fun H3 a3 => ?_⟩
        walk_at "rd"
        refine ⟨by show 3 ≤ sizeLine; decide, fun p np => ?_⟩
        exact raiS ex e (a2.trans a3) np
      · refine ⟨true, Z3.N.hX "BadClaim" (by decide), fun _ a na => ?_, (fun z => nomatch z)⟩
        refine ⟨_, rfl, ?_⟩
        walk_at "rd"
        refine ⟨dd, _, .str z, rfl, hdd, rfl, ?_⟩
        walk_at "rd"
        refine ⟨_, rfl, rfl, "BadClaim", nam_C Z3.N, rfl, fun dd' z => ⟨_, by cases z; exact hdd⟩, fun H3 a3 => ?_⟩
        walk_at "rd"
        refine ⟨by show 3 ≤ sizeLine; decide, fun p np => ?_⟩
        exact raiC ex e (a2.trans a3) np
      · walk_at "rd"
        refine ⟨by show 2 ≤ sizeLine; decide, fun p np => ?_⟩
        have ap : Adv [] H2 (upd H2 p (.lst [.str "told", y])) := Adv.new np
        exact q2 (re_N ex e) ns th le ri ed _ _ (Is.lst upd_same (not_mem_new (alloc_adv hal a2 (by simp)) np) (.cons .str (.cons (hy.adv ap.nil) .nil))) (a2.newT np)
/-! ### _law_is_answered -/
theorem nD_inj : ∀ {a b : List Nat}, nD a = nD b → a = b
  | [], [], _ => rfl
  | [], _ :: _, h => by cases h
  | _ :: _, [], h => by cases h
  | x :: a, y :: b, h => by
    have h' : PyData.int (x : Nat) :: nD a = PyData.int (y : Nat) :: nD b := h
    injection h' with h1 h2
    injection h1 with h1
    rw [nD_inj h2, Int.ofNat.inj h1]
theorem clm_inj {ns ns' : List Nd} {th th' le le' ri ri' : List Nat} (h : clmD ns th le ri = clmD ns' th' le' ri') : ns = ns' ∧ th = th' ∧ le = le' ∧ ri = ri' := by
  unfold clmD at h
  injection h with h
  injection h with h1 h
  injection h with h2 h
  injection h with h3 h
  injection h with h4 _
  injection h1 with h1
  injection h2 with h2
  injection h3 with h3
  injection h4 with h4
  exact ⟨nds_inj h1, nD_inj h2, nD_inj h3, nD_inj h4⟩
theorem clm_szs {ns : List Nd} {th le ri : List Nat} {n : Nat} (h : sz (clmD ns th le ri) ≤ n) : (th ++ le ++ ri).length ≤ n := by
  unfold clmD at h
  simp only [sz_tup, szL_cons, szL_nil, nD_sz] at h
  simp only [List.length_append]
  omega
theorem cl_sz {m : Int} {b : Bool} {d : PyData} {c : Str} {y : PyData} (h : claimM m b d = some (c, y)) : sz y = 1 := by
  unfold claimM at h
  split at h
  · split at h
    · cases h; exact sz1_int _
    · split at h
      · cases h; exact sz1_str _
      · split at h
        · cases h; exact sz1_str _
        · split at h
          · cases h; exact sz1_str _
          · cases h
  · cases h; exact sz1_str _
theorem re_sz (x : Str) (d : PyData) : sz (reD x d) ≤ 10 := by
  unfold reD
  split
  · simp [sz_lst, szL_cons, szL_nil, sz1_str]
  · split
    · rename_i c y e
      have := cl_sz e
      split <;> simp [sz_lst, szL_cons, szL_nil, sz1_str, this]
    · rw [sz1_none]; decide
theorem re_lst {x : Str} {d : PyData} (h : reD x d ≠ .none) : ∃ ds, reD x d = .list ds := by
  unfold reD at h ⊢
  by_cases e : logicOk x = false
  · rw [if_pos e]; exact ⟨_, rfl⟩
  · rw [if_neg e] at h ⊢
    cases k : claimM 60 (logicB x) d with
    | none => rw [k] at h; exact absurd rfl h
    | some p =>
      obtain ⟨c, y⟩ := p
      show ∃ ds, (if c = "BadSheet" then PyData.list [.str "sheet", y, .str "BadSheet"] else .list [.str "claim", y, .str "BadClaim"]) = .list ds
      split <;> exact ⟨_, rfl⟩
theorem td_sz {keys : Bool} {x : Str} {ns : List Nd} {rows : List Nat} (h : ns.length ≤ 60) : sz (tdD keys x ns rows) ≤ 100 := by
  have h1 : (keysF x ns rows).length ≤ 60 := Nat.le_trans (Nat.le_trans (List.length_filter_le _ _) (below_len _ _)) h
  unfold tdD
  cases keys with
  | true => simp only [sz_lst, szL_cons, szL_nil, sz1_str, if_true, sz_tup, nD_sz]; omega
  | false => simp only [sz_lst, szL_cons, szL_nil, sz1_str, sz1_none, Bool.false_eq_true, if_false]; omega
structure AnsP (vs : List V) (H : Hp) (Q : VK) : Prop where
  ex : ∃ (M : List Addr) (x : Str) (v : V) (d : PyData), vs = [.str x, v] ∧ (∀ b ∈ M, H b ≠ none) ∧ Is M H d v ∧ sz d ≤ 200000 ∧ dep d ≤ 12 ∧ ∀ H', Adv [] H H' → Q (.bl true) H'
def spAns : Sp := fun vs H Q _ => AnsP vs H Q
theorem ok_law_is_answered (A : All K mg w) (Z : Exs K mg) (ZL : Er_BadLogic Z) (Z1 : Er_BadSheet Z) (Z3 : Er_BadClaim Z) : FnOk P w K mg base CX0 20 A.law_is_answered.f A.law_is_answered.fd ["logic", "claim"] spAns := by
  refine A.law_is_answered.F.ok sc_law_is_answered (fun vs H Q E h => ?_) (fun cdv Ar outer s H vs Q E hr h => ?_)
  · obtain ⟨M, x, v, d, rfl, _⟩ := h.ex
    rfl
  · obtain ⟨M, x, v, d, rfl, hal, hv, hz, hd, q⟩ := h.ex
    refine ⟨_, (pss_cons (ps_set (i := 2) sc_law_is_answered.nd rfl (Or.inl rfl) (pe_call (ok_law_copy A 12) (hr.mono (by omega)) rfl A.law_copy.m A.law_copy.F.kp A.law_copy.b .nil pass0 (pa_cons (pv 1) pa_nil)))
  (pss_cons (ps_set (i := 3) sc_law_is_answered.nd rfl (Or.inl rfl) (pe_call (ok_law_reason A) (hr.mono (by omega)) rfl A.law_reason.m A.law_reason.F.kp A.law_reason.b .nil pass0 (pa_cons (pv 0) (pa_cons (pv 1) pa_nil))))
  (pss_cons (ps_par (i := 4) (j := 5) (by rfl) sc_law_is_answered.nd rfl rfl (by decide) rfl rfl (pa_cons (pe_lst (pa_cons pe_str (pa_cons pe_non pa_nil))) (pa_cons (pv 3) pa_nil)) (by rfl))
  (pss_cons (ps_if (pt_cmpR op_isN (pv 3) pe_non (nomark _))
    (pss_one (ps_set (i := 5) sc_law_is_answered.nd rfl (Or.inl rfl) (pe_lst (pa_cons pe_str (pa_cons (pe_callTy call_tuple_of (by rfl) A.T.tuple (by decide +kernel) (pa_cons (pe_call (ok_law_claim_keys A) (hr.mono (by omega)) rfl A.law_claim_keys.m A.law_claim_keys.F.kp A.law_claim_keys.b .nil pass0 (pa_cons (pv 0) (pa_cons (pv 1) pa_nil))) pa_nil)) pa_nil)))))
    (pss_one (ps_set (i := 4) sc_law_is_answered.nd rfl (Or.inl rfl) (pv 3))))
  (pss_one (ps_ret (pe_and (pe_call (ok_law_same A) (hr.mono (by omega)) rfl A.law_same.m A.law_same.F.kp A.law_same.b .nil pass0 (pa_cons (pe_call (ok_law_ask A Z ZL Z1 Z3) (hr.mono (by omega)) rfl A.law_ask.m A.law_ask.F.kp A.law_ask.b .nil pass0 (pa_cons pe_str (pa_cons (pv 0) (pa_cons (pv 1) pa_nil)))) (pa_cons (pv 5) pa_nil))) (pe_and (pe_call (ok_law_same A) (hr.mono (by omega)) rfl A.law_same.m A.law_same.F.kp A.law_same.b .nil pass0 (pa_cons (pe_call (ok_law_ask A Z ZL Z1 Z3) (hr.mono (by omega)) rfl A.law_ask.m A.law_ask.F.kp A.law_ask.b .nil pass0 (pa_cons pe_str (pa_cons (pv 0) (pa_cons (pv 1) pa_nil)))) (pa_cons (pv 4) pa_nil))) (pe_one (pe_call (ok_law_same A) (hr.mono (by omega)) rfl A.law_same.m A.law_same.F.kp A.law_same.b .nil pass0 (pa_cons (pv 1) (pa_cons (pv 2) pa_nil)))))))))))), ?_⟩
    walk_at "rd"
    refine ⟨v, d, M, rfl, hal, hv, hd, by omega, fun v2 H1 hv2 a1 => ?_⟩
    walk_at "rd"
    refine ⟨⟨M, x, v, d, rfl, alloc_adv hal a1 (by simp), hv.adv a1.nil, hz, fun y H2 hy a2 => ?_⟩⟩
    have a02 := a1.trans a2
    replace hv2 := hv2.adv a2.nil
    clear a1 a2
    walk_at "rd"
    refine ⟨by show 2 ≤ sizeLine; decide, fun p np => ?_⟩
    have ap : Adv [] H2 (upd H2 p (.lst [.str "told", .non])) := Adv.new np
    have hp : (upd H2 p (.lst [.str "told", .non])) p = some (.lst [.str "told", .non]) := upd_same
    have a03 := a02.trans ap
    replace hy := hy.adv ap.nil
    replace hv2 := hv2.adv ap.nil
    generalize (upd H2 p (.lst [.str "told", .non])) = H3 at ap hp a03 hy hv2
    clear a02 ap np
    have al : ∀ {H' : Hp}, Adv [] H H' → ∀ b ∈ M, H' b ≠ none := fun a => alloc_adv hal a (by simp)
    by_cases e : reD x d = .none
    · rw [e] at hy
      have ey := hy.nonE
      subst ey
      obtain ⟨hx, hc⟩ := re_none e
      obtain ⟨ns, th, le, ri, rfl, ok, hl, hrow⟩ := claimM_none (by decide) hc
      walk_at "rd"
      refine ⟨⟨x, v, ns, th, le, ri, logicB x, rfl, hx, (hv.adv a03.nil).less (by simp), hrow, ok, by omega, clm_szs hz, fun l H4 nl hl4 a4 => ?_⟩⟩
      walk_at "rd"
      refine ⟨l, _, rfl, .inl ⟨SqL.of hl4, fun T nT => ?_⟩⟩
      have aT : Adv [] H4 (upd H4 T (.tup (nVl (keysF x ns (th ++ le ++ ri))))) := Adv.new nT
      have hT : (upd H4 T (.tup (nVl (keysF x ns (th ++ le ++ ri))))) T = some (.tup (nVl (keysF x ns (th ++ le ++ ri)))) := upd_same
      have a3T := a4.trans aT
      generalize (upd H4 T (.tup (nVl (keysF x ns (th ++ le ++ ri))))) = H5 at aT hT a3T
      clear nT hl4
      walk_at "rd"
      refine ⟨by show 2 ≤ sizeLine; decide, fun p2 np2 => ?_⟩
      have ap2 : Adv [] H5 (upd H5 p2 (.lst [.str "told", .ref T])) := Adv.new np2
      have hp2 : (upd H5 p2 (.lst [.str "told", .ref T])) p2 = some (.lst [.str "told", .ref T]) := upd_same
      have a36 := a3T.trans ap2
      replace hT := ap2.same _ _ hT
      generalize (upd H5 p2 (.lst [.str "told", .ref T])) = H6 at ap2 hp2 a36 hT
      clear np2 ap2 aT a4 a3T
      have a06 := a03.trans a36
      have i1 : Is [] H6 (tdD true x ns (th ++ le ++ ri)) (.ref p2) := Is.lst hp2 (by simp) (.cons .str (.cons (Is.tup hT (by simp) (nD_is _)) .nil))
      have i2 : Is [] H6 (tdD false x ns (th ++ le ++ ri)) (.ref p) := Is.lst (a36 _ _ (by simp) hp) (by simp) (.cons .str (.cons .non .nil))
      replace hv2 := hv2.adv a36.nil
      clear hp2 hT hp a36 hy
      walk_at "rd"
      refine ⟨⟨M, true, x, v, _, rfl, al a06, hv.adv a06.nil, hz, fun z => absurd e z, fun _ ns' th' le' ri' ed y' H7 hy' a7 => ?_⟩⟩
      obtain ⟨rfl, rfl, rfl, rfl⟩ := clm_inj ed
      walk_at "rd"
      refine ⟨y', .ref p2, _, rfl, hy'.less (by simp), i1.adv a7, by have := td_sz (keys := true) (x := x) (ns := ns) (rows := th ++ le ++ ri) (by omega); omega, fun H8 a8 => ?_⟩
      have a08 := (a06.trans a7).trans a8
      have a68 := a7.trans a8
      walk_at "rd"
      refine ⟨⟨M, false, x, v, _, rfl, al a08, hv.adv a08.nil, hz, fun z => absurd e z, fun _ ns' th' le' ri' ed y' H9 hy' a9 => ?_⟩⟩
      obtain ⟨rfl, rfl, rfl, rfl⟩ := clm_inj ed
      walk_at "rd"
      refine ⟨y', .ref p, _, rfl, hy'.less (by simp), i2.adv (a68.trans a9), by have := td_sz (keys := false) (x := x) (ns := ns) (rows := th ++ le ++ ri) (by omega); omega, fun H10 a10 => ?_⟩
      have a0A := (a08.trans a9).trans a10
      walk_at "rd"
      refine ⟨v, v2, _, rfl, (hv.adv a0A.nil).less (by simp), (hv2.adv ((a68.trans a9).trans a10).nil).less (by simp), by omega, fun H11 a11 => ?_⟩
      exact q H11 (a0A.trans a11)
    · obtain ⟨ds, el⟩ := re_lst e
      have hy0 := hy
      rw [el] at hy0
      obtain ⟨b, vs, rfl, _⟩ := hy0.lstE
      have zr := re_sz x d
      walk_at "rd"
      refine ⟨⟨M, true, x, v, _, rfl, al a03, hv.adv a03.nil, hz, fun _ y' H7 hy' a7 => ?_, fun z => absurd z e⟩⟩
      walk_at "rd"
      refine ⟨y', .ref b, _, rfl, hy'.less (by simp), (hy.adv a7.nil).less (by simp), by omega, fun H8 a8 => ?_⟩
      have a08 := (a03.trans a7).trans a8
      have a38 := a7.trans a8
      walk_at "rd"
      refine ⟨⟨M, false, x, v, _, rfl, al a08, hv.adv a08.nil, hz, fun _ y' H9 hy' a9 => ?_, fun z => absurd z e⟩⟩
      walk_at "rd"
      refine ⟨y', .ref b, _, rfl, hy'.less (by simp), (hy.adv (a38.trans a9).nil).less (by simp), by omega, fun H10 a10 => ?_⟩
      have a0A := (a08.trans a9).trans a10
      walk_at "rd"
      refine ⟨v, v2, _, rfl, (hv.adv a0A.nil).less (by simp), (hv2.adv ((a38.trans a9).trans a10).nil).less (by simp), by omega, fun H11 a11 => ?_⟩
      exact q H11 (a0A.trans a11)
end

set_option Elab.async false
set_option linter.all false
set_option maxRecDepth 100000
set_option maxHeartbeats 4000000
open PySem PySem.Spec PyProof.Rows L2 LL
open C8 (pss_cut)
section
variable [KW]
variable {P : Program} {w : World} {K : PySem.W.Frag} {mg : Str → Option Value} {base : Heap}
/-! ### law -/
theorem not_lst {d : PyData} (h : ¬ ∃ ds, d = .list ds) : kitD d "list" = false := by
  cases d with
  | list ds => exact absurd ⟨ds, rfl⟩ h
  | _ => simp [kitD, tyN]
theorem nd_dep1 (n : Nd) : dep n.data ≤ 1 := by
  cases n <;> simp [Nd.data, Nd.keys, keyDt, dep_tup, depL_cons, depL_nil, dep1_str, dep1_int]
theorem nds_dep (ns : List Nd) : depL (ns.map Nd.data) ≤ 1 := by
  induction ns with
  | nil => rw [List.map_nil, depL_nil]; omega
  | cons n ns ih =>
    have := nd_dep1 n
    rw [List.map_cons, depL_cons]; omega
def spLaw (K : PySem.W.Frag) : Sp := fun vs H Q _ => ∃ (a : Addr) (ns : List Int), vs = [.ref a] ∧ SqL K H a (ns.map V.int) ∧ ns.length ≤ 63 ∧ ∀ H', Q (.bl true) H'
theorem ok_law (A : All K mg w) (Z : Exs K mg) (ZL : Er_BadLogic Z) (Z1 : Er_BadSheet Z) (Z3 : Er_BadClaim Z) : FnOk P w K mg base CX0 21 A.law.f A.law.fd ["script"] (spLaw K) := by
  refine A.law.F.ok sc_law (fun vs H Q E h => ?_) (fun cdv Ar outer s0 H vs Q E hr h => ?_)
  · obtain ⟨a, ns, rfl, _⟩ := h
    rfl
  · obtain ⟨a, ns, rfl, hS, hl, q⟩ := h
    refine ⟨_, (pss_cons (ps_set (i := 1) sc_law.nd rfl (Or.inl rfl) (pe_call (ok_law_stream A) (hr.mono (by omega)) rfl A.law_stream.m A.law_stream.F.kp A.law_stream.b .nil pass0 (pa_cons (pv 0) pa_nil)))
  (pss_cons (ps_for PassesOwn.never rfl (pi_range1 rfl A.T.range (pa_cons pe_int pa_nil)) (pg_name (i := 2) sc_law.nd rfl (Or.inl rfl))
    (pss_cons (ps_set (i := 3) sc_law.nd rfl (Or.inl rfl) (pe_call (ok_law_pick A) (hr.mono (by omega)) rfl A.law_pick.m A.law_pick.F.kp A.law_pick.b .nil pass0 (pa_cons (pv 1) (pa_cons (pe_tup (pa_cons pe_str (pa_cons pe_str (pa_cons pe_str (pa_cons pe_str (pa_cons pe_str pa_nil)))))) pa_nil))))
  (pss_cons (ps_set (i := 4) sc_law.nd rfl (Or.inl rfl) (pe_call (ok_law_claim A) (hr.mono (by omega)) rfl A.law_claim.m A.law_claim.F.kp A.law_claim.b .nil pass0 (pa_cons (pv 1) (pa_cons (pv 3) pa_nil))))
  (pss_cons (ps_if (pt_not (pt_val (pe_call (ok_law_is_answered A Z ZL Z1 Z3) (hr.mono (by omega)) rfl A.law_is_answered.m A.law_is_answered.F.kp A.law_is_answered.b .nil pass0 (pa_cons (pv 3) (pa_cons (pv 4) pa_nil)))))
    (pss_one (ps_ret pe_bl))
    pss_nil)
  (pss_cons (ps_for PassesOwn.never rfl (pi_range1 rfl A.T.range (pa_cons pe_int pa_nil)) (pg_name (i := 5) sc_law.nd rfl (Or.inl rfl))
    (pss_cons (ps_set (i := 6) sc_law.nd rfl (Or.inl rfl) (pe_call (ok_law_bent A) (hr.mono (by omega)) rfl A.law_bent.m A.law_bent.F.kp A.law_bent.b .nil pass0 (pa_cons (pv 1) (pa_cons (pv 4) pa_nil))))
  (pss_cut (ps_if (PW.pt (pw_and (pt_cmpR op_eq (pe_call (ok_law_next A) (hr.mono (by omega)) rfl A.law_next.m A.law_next.F.kp A.law_next.b .nil pass0 (pa_cons (pv 1) (pa_cons pe_int pa_nil))) pe_int (nomark _)) (pw_and (pt_val (pe_callB call_isi (by rfl) A.T.isinstance (by decide +kernel) (pa_cons (pv 6) (pa_cons (pe_bltn (v := .ty "tuple") (by rfl) A.T.tuple (by decide +kernel) rfl) pa_nil)))) (pw_and (pt_cmpR op_eq (pe_callB call_len_seq (by rfl) A.T.len PySem.boot_len (pa_cons (pv 6) pa_nil)) pe_int (nomark _)) (pw_and (pt_val (pe_callB call_isi (by rfl) A.T.isinstance (by decide +kernel) (pa_cons (pe_ix ix_tup (pv 6) pe_int (fun _ _ => rfl)) (pa_cons (pe_bltn (v := .ty "list") (by rfl) A.T.list (by decide +kernel) rfl) pa_nil)))) (pw_and1 (pt_val (pe_callB call_isi (by rfl) A.T.isinstance (by decide +kernel) (pa_cons (pe_ix ix_tup (pv 6) pe_int (fun _ _ => rfl)) (pa_cons (pe_bltn (v := .ty "tuple") (by rfl) A.T.tuple (by decide +kernel) rfl) pa_nil))))))))))
    (pss_one (ps_if (PW.pt (pw_and (pt_val (pe_callB call_isi (by rfl) A.T.isinstance (by decide +kernel) (pa_cons (pe_ix ix_tup (pv 6) pe_int (fun _ _ => rfl)) (pa_cons (pe_bltn (v := .ty "tuple") (by rfl) A.T.tuple (by decide +kernel) rfl) pa_nil)))) (pw_and (pt_val (pe_callB call_isi (by rfl) A.T.isinstance (by decide +kernel) (pa_cons (pe_ix ix_tup (pv 6) pe_int (fun _ _ => rfl)) (pa_cons (pe_bltn (v := .ty "tuple") (by rfl) A.T.tuple (by decide +kernel) rfl) pa_nil)))) (pw_and1 (pt_cmpR op_eq (pe_callB call_len_seq (by rfl) A.T.len PySem.boot_len (pa_cons (pe_ix ix_tup (pv 6) pe_int (fun _ _ => rfl)) pa_nil)) (pe_callB call_len_seq (by rfl) A.T.len PySem.boot_len (pa_cons (pe_ix ix_tup (pv 4) pe_int (fun _ _ => rfl)) pa_nil)) (nomark _))))))
    (pss_one (ps_set (i := 6) sc_law.nd rfl (Or.inl rfl) (pe_call (ok_law_bent A) (hr.mono (by omega)) rfl A.law_bent.m A.law_bent.F.kp A.law_bent.b .nil pass0 (pa_cons (pv 1) (pa_cons (pv 6) pa_nil)))))
    pss_nil))
    pss_nil)
  (pss_one (ps_if (pt_not (pt_val (pe_call (ok_law_is_answered A Z ZL Z1 Z3) (hr.mono (by omega)) rfl A.law_is_answered.m A.law_is_answered.F.kp A.law_is_answered.b .nil pass0 (pa_cons (pv 3) (pa_cons (pv 6) pa_nil)))))
    (pss_one (ps_ret pe_bl))
    pss_nil)))))
  (pss_cons (ps_for PassesOwn.never rfl (pi_tup (pe_tup (pa_cons pe_str (pa_cons pe_str (pa_cons pe_str (pa_cons pe_str (pa_cons pe_str pa_nil))))))) (pg_name (i := 7) sc_law.nd rfl (Or.inl rfl))
    (pss_one (ps_if (pt_not (pt_val (pe_call (ok_law_is_answered A Z ZL Z1 Z3) (hr.mono (by omega)) rfl A.law_is_answered.m A.law_is_answered.F.kp A.law_is_answered.b .nil pass0 (pa_cons (pv 7) (pa_cons (pv 4) pa_nil)))))
    (pss_one (ps_ret pe_bl))
    pss_nil)))
  (pss_cons (ps_set (i := 8) sc_law.nd rfl (Or.inl rfl) (pe_call (ok_law_pick A) (hr.mono (by omega)) rfl A.law_pick.m A.law_pick.F.kp A.law_pick.b .nil pass0 (pa_cons (pv 1) (pa_cons (pe_lst (pa_cons pe_str (pa_cons pe_str (pa_cons pe_str (pa_cons pe_str (pa_cons pe_str (pa_cons pe_str pa_nil))))))) pa_nil))))
  (pss_one (ps_if (PW.pt (pw_or (pt_not (pt_val (pe_call (ok_law_is_answered A Z ZL Z1 Z3) (hr.mono (by omega)) rfl A.law_is_answered.m A.law_is_answered.F.kp A.law_is_answered.b .nil pass0 (pa_cons (pv 8) (pa_cons (pe_call (ok_law_pick A) (hr.mono (by omega)) rfl A.law_pick.m A.law_pick.F.kp A.law_pick.b .nil pass0 (pa_cons (pv 1) (pa_cons (pe_tup (pa_cons (pv 4) (pa_cons pe_non (pa_cons (pe_slice sl_tupA (pv 4) po_none (po_some pe_int)) pa_nil)))) pa_nil))) pa_nil))))) (pw_or1 (pt_not (pt_val (pe_call (ok_law_is_answered A Z ZL Z1 Z3) (hr.mono (by omega)) rfl A.law_is_answered.m A.law_is_answered.F.kp A.law_is_answered.b .nil pass0 (pa_cons (pv 3) (pa_cons (pv 4) pa_nil))))))))
    (pss_one (ps_ret pe_bl))
    pss_nil)))))))))
  (pss_one (ps_ret pe_bl)))), ?_⟩
    walk_at "rd"
    refine ⟨a, ns, rfl, hS, hl, fun st H1 ns0 hs1 a1 => ?_⟩
    have hs1 : StrAt [st] H1 st := by
      obtain ⟨l, ms, c, k, h1, h2, h3, h4, h5⟩ := hs1
      refine ⟨l, ms, c, k, h1, h2, h3, h4, fun z => ?_⟩
      have e : l = st := by simpa using z
      exact ne_of h2 h1 (ne_lst_ints).symm e
    walk_at "rd"
    refine ⟨by omega, by omega, ?_⟩
    refine for_range (lo := 0) (n := 4) (fun i σ' H' => ∃ y2 y3 y4 y5 y6 y7 y8, σ' = [some (.ref a), some (.ref st), y2, y3, y4, y5, y6, y7, y8] ∧ StrAt [st] H' st)
      ⟨_, _, _, _, _, _, _, rfl, hs1⟩ ?_ ?_
    rotate_left
    · rintro σ' H' ⟨y2, y3, y4, y5, y6, y7, y8, rfl, hs⟩
      walk_at "rd"
      exact q H'
    rintro i0 σ' H2 hi ⟨y2, y3, y4, y5, y6, y7, y8, rfl, hs⟩
    clear hS hs1 a1
    walk_at "rd"
    refine ⟨by show 5 ≤ sizeLine; decide, fun p np => ?_⟩
    have ap : Adv [] H2 (upd H2 p (.tup [.str "classical", .str "intuit", .str "k", .str "s4", .str "gl"])) := Adv.new np
    have ps : p ≠ st := fun z => hs.here (by rw [← z]; exact np)
    walk_at "rd"
    refine ⟨st, p, _, [st], rfl, hs.same ap, .inr upd_same, ps, by simp, by simp, fun x H3 hx hs3 a3 => ?_⟩
    obtain ⟨lg, rfl⟩ : ∃ lg : Str, x = .str lg := by
      simp only [List.mem_cons, List.not_mem_nil, or_false] at hx
      rcases hx with rfl | rfl | rfl | rfl | rfl <;> exact ⟨_, rfl⟩
    clear hx hs ap ps np a3
    walk_at "rd"
    refine ⟨⟨[st], st, lg, rfl, hs3, by simp, fun b hb => by rw [List.mem_singleton.mp hb]; exact hs3.here, fun v ns ths le ri H4 hv z1 z2 z3 z4 hs4 a4 => ?_⟩⟩
    clear hs3 a4
    have al : ∀ {H' : Hp}, StrAt [st] H' st → ∀ b ∈ [st], H' b ≠ none := fun h b hb => by rw [List.mem_singleton.mp hb]; exact h.here
    have cz : szL [.list (ns.map Nd.data), .tuple (nD ths), .tuple (nD le), .tuple (nD ri)] ≤ 15000 := by
      have := nds_sz ns
      simp only [szL_cons, szL_nil, sz_lst, sz_tup, nD_sz]; omega
    have cd : depL [.list (ns.map Nd.data), .tuple (nD ths), .tuple (nD le), .tuple (nD ri)] ≤ 2 := by
      have := nds_dep ns
      simp only [depL_cons, depL_nil, dep_lst, dep_tup, nD_dep]; omega
    have cz1 : sz (clmD ns ths le ri) ≤ 200000 := by unfold clmD; rw [sz_tup]; omega
    have cd1 : dep (clmD ns ths le ri) ≤ 12 := by unfold clmD; rw [dep_tup]; omega
    walk_at "rd"
    refine ⟨⟨[st], lg, v, _, rfl, al hs4, hv, cz1, cd1, fun H5 a5 => ?_⟩⟩
    have hv5 := hv.adv a5.nil
    have hs5 := hs4.same a5
    clear hv hs4 a5
    refine ⟨_, rfl, iteN rfl ?_⟩
    walk_at "rd"
    refine ⟨by omega, by omega, ?_⟩
    refine for_range (lo := 0) (n := 4) (fun i σ' H' => ∃ y5 y6, σ' = [some (.ref a), some (.ref st), some (.int (0 + (i0 : Nat))), some (.str lg), some v, y5, y6, y7, y8] ∧ StrAt [st] H' st ∧ Is [st] H' (clmD ns ths le ri) v)
      ⟨_, _, rfl, hs5, hv5⟩ ?_ ?_
    · rintro k σ' H6 hk ⟨y5, y6, rfl, hs6, hv6⟩
      walk_at "rd"
      refine ⟨⟨[st], st, v, _, _, _, _, 15000, 2, rfl, hv6, by rw [List.length_map]; omega, cz, cd, by decide, by decide, hs6, by simp, al hs6, fun vb db H7 hb zb kb hs7 a7 => ?_⟩⟩
      replace hv6 := hv6.adv a7
      clear hs6 a7
      refine ⟨fun σ' H' => ∃ vc dc, σ' = [some (.ref a), some (.ref st), some (.int (0 + (i0 : Nat))), some (.str lg), some v, some (.int (0 + (k : Nat))), some vc, y7, y8] ∧ StrAt [st] H' st ∧ Is [st] H' (clmD ns ths le ri) v ∧ Is [st] H' dc vc ∧ sz dc ≤ 200000 ∧ dep dc ≤ 12, ?_, ?_⟩
      rotate_left
      · rintro σ' H8 ⟨vc, dc, rfl, hs8, hv8, hc8, zc, kc⟩
        walk_at "rd"
        refine ⟨⟨[st], lg, vc, _, rfl, al hs8, hc8, zc, kc, fun H9 a9 => ?_⟩⟩
        refine ⟨_, rfl, iteN rfl ?_⟩
        exact ⟨_, _, rfl, hs8.same a9, hv8.adv a9.nil⟩
      walk_at "rd"
      refine ⟨st, 3, [st], rfl, hs7, by decide, by decide, fun d H8 d0 d1 hs8 a8 => ?_⟩
      replace hv6 := hv6.adv a8
      replace hb := hb.adv a8
      clear hs7 a8
      have skip : ∃ vc dc, ([some (.ref a), some (.ref st), some (.int (0 + (i0 : Nat))), some (.str lg), some v, some (.int (0 + (k : Nat))), some vb, y7, y8] : L2.St) = [some (.ref a), some (.ref st), some (.int (0 + (i0 : Nat))), some (.str lg), some v, some (.int (0 + (k : Nat))), some vc, y7, y8] ∧ StrAt [st] H8 st ∧ Is [st] H8 (clmD ns ths le ri) v ∧ Is [st] H8 dc vc ∧ sz dc ≤ 200000 ∧ dep dc ≤ 12 := ⟨vb, db, rfl, hs8, hv6, hb, by omega, by omega⟩
      walk_at "rd"
      refine iteB (fun _ => ?_) (fun _ => skip)
      walk_at "rd"
      refine ⟨_, _, _, _, _, rfl, .ty _, hb.ty A.W, k_tuple db, ?_⟩
      walk_at "rd"
      by_cases hT : ∃ ds, db = .tuple ds
      case neg => exact iteN (by rw [not_tup hT]) skip
      obtain ⟨ds, rfl⟩ := hT
      refine iteY (by simp [kitD, tyN]) ?_
      obtain ⟨b, us, rfl, hT, hus⟩ := hb.tupE
      have hul := hus.len
      have sqb := hT.sq A.W
      walk_at "rd"
      rw [hul]
      refine iteB (fun e4 => ?_) (fun _ => skip)
      have e4' : ds.length = 4 := by
        have h := of_decide_eq_true e4
        injection h with h
        omega
      obtain ⟨d0, d1, d2, d3, hds⟩ : ∃ d0 d1 d2 d3, ds = [d0, d1, d2, d3] := by
        match ds, e4' with
        | [d0, d1, d2, d3], _ => exact ⟨d0, d1, d2, d3, rfl⟩
      subst hds
      obtain ⟨v0, v1, v2, v3, rfl, i0', i1, i2, i3⟩ := IsDs.four hus
      clear e4 e4' hul
      obtain ⟨cl, cvs, rfl, cT, cI⟩ := hv6.tupE
      obtain ⟨c0, c1, c2, c3, rfl, ci0, _⟩ := IsDs.four cI
      obtain ⟨csh, crs, rfl, _, chs, crd⟩ := ci0.lstE
      have crl := crd.len
      rw [List.length_map] at crl
      walk_at "rd"
      refine ⟨_, _, _, _, _, rfl, .ty _, i0'.ty A.W, k_list d0, ?_⟩
      walk_at "rd"
      by_cases hL : ∃ es, d0 = .list es
      case neg => exact iteN (by rw [not_lst hL]) skip
      obtain ⟨es, rfl⟩ := hL
      refine iteY (by simp [kitD, tyN]) ?_
      walk_at "rd"
      refine ⟨_, _, _, _, _, rfl, .ty _, i1.ty A.W, k_tuple d1, ?_⟩
      walk_at "rd"
      by_cases hT1 : ∃ es, d1 = .tuple es
      case neg => exact iteN (by rw [not_tup hT1]) skip
      obtain ⟨x1, rfl⟩ := hT1
      refine iteY (by simp [kitD, tyN]) ?_
      walk_at "rd"
      refine ⟨_, _, _, _, _, rfl, .ty _, i2.ty A.W, k_tuple d2, ?_⟩
      walk_at "rd"
      by_cases hT2 : ∃ es, d2 = .tuple es
      case neg => exact iteN (by rw [not_tup hT2]) skip
      obtain ⟨x2, rfl⟩ := hT2
      refine iteY (by simp [kitD, tyN]) ?_
      walk_at "rd"
      refine ⟨_, _, _, _, _, rfl, .ty _, i3.ty A.W, k_tuple d3, ?_⟩
      walk_at "rd"
      by_cases hT3 : ∃ es, d3 = .tuple es
      case neg => exact iteN (by rw [not_tup hT3]) skip
      obtain ⟨x3, rfl⟩ := hT3
      refine iteY (by simp [kitD, tyN]) ?_
      obtain ⟨bsh, brs, rfl, _, bhs, brd⟩ := i0'.lstE
      have brl := brd.len
      have sqc := cT.sq A.W
      walk_at "rd"
      refine iteB (fun e5 => ?_) (fun _ => skip)
      have e5' : es.length ≤ 3000 := by
        have h := of_decide_eq_true e5
        injection h with h
        omega
      have zb' : szL [.list es, .tuple x1, .tuple x2, .tuple x3] ≤ 49000 := by rw [sz_tup] at zb; omega
      have kb' : depL [.list es, .tuple x1, .tuple x2, .tuple x3] ≤ 3 := by rw [dep_tup] at kb; omega
      walk_at "rd"
      refine ⟨⟨[st], st, .ref b, _, _, _, _, 49000, 3, rfl, hb, e5', zb', kb', by decide, by decide, hs8, by simp, al hs8, fun vc dc H9 hc zc kc hs9 a9 => ?_⟩⟩
      exact ⟨vc, dc, rfl, hs9, hv6.adv a9, hc, by omega, by omega⟩
    · rintro σ' H6 ⟨y5, y6, rfl, hs6, hv6⟩
      clear hs5 hv5
      walk_at "rd"
      unfold iTup
      walk_at "rd"
      refine ⟨by show 5 ≤ sizeLine; decide, fun p np => ?_⟩
      have ap : Adv [] H6 (upd H6 p (.tup [.str "classical", .str "intuit", .str "k", .str "s4", .str "gl"])) := Adv.new np
      refine ⟨p, rfl, ⟨_, SqT.of upd_same⟩, ?_⟩
      refine for_tup (a := p) (xs := [.str "classical", .str "intuit", .str "k", .str "s4", .str "gl"]) (fun i σ' H' => ∃ y7, σ' = [some (.ref a), some (.ref st), some (.int (0 + (i0 : Nat))), some (.str lg), some v, y5, y6, y7, y8] ∧ StrAt [st] H' st ∧ Is [st] H' (clmD ns ths le ri) v ∧ H' p = some (.tup [.str "classical", .str "intuit", .str "k", .str "s4", .str "gl"]))
        ⟨_, rfl, hs6.same ap, hv6.adv ap.nil, upd_same⟩ ?_ ?_ ?_
      · rintro i σ' H' hi ⟨y7, rfl, _, _, hp⟩
        exact SqT.of hp
      · rintro i x σ' H' hx ⟨y7, rfl, hs, hv, hp⟩
        obtain ⟨o, rfl⟩ : ∃ o : Str, x = .str o := by
          have hm := List.mem_of_getElem? hx
          simp only [List.mem_cons, List.not_mem_nil, or_false] at hm
          rcases hm with rfl | rfl | rfl | rfl | rfl <;> exact ⟨_, rfl⟩
        walk_at "rd"
        refine ⟨⟨[st], o, v, _, rfl, al hs, hv, cz1, cd1, fun H7 a7 => ?_⟩⟩
        refine ⟨_, rfl, iteN rfl ?_⟩
        exact ⟨_, rfl, hs.same a7, hv.adv a7.nil, a7 _ _ (by simp) hp⟩
      · rintro σ' H7 ⟨y7, rfl, hs, hv, _⟩
        clear hs6 hv6 ap np
        walk_at "rd"
        refine ⟨by show 6 ≤ sizeLine; decide, fun p np => ?_⟩
        have ap : Adv [] H7 (upd H7 p (.lst [.str "K", .str "", .str "grz", .str "modal", .str "classic", .str "s4 "])) := Adv.new np
        have ps : p ≠ st := fun z => hs.here (by rw [← z]; exact np)
        walk_at "rd"
        refine ⟨st, p, _, [st], rfl, hs.same ap, .inl upd_same, ps, by simp, by simp, fun x H8 hx hs8 a8 => ?_⟩
        obtain ⟨o, rfl⟩ : ∃ o : Str, x = .str o := by
          simp only [List.mem_cons, List.not_mem_nil, or_false] at hx
          rcases hx with rfl | rfl | rfl | rfl | rfl | rfl <;> exact ⟨_, rfl⟩
        replace hv := hv.adv (ap.nil.trans a8)
        clear hx hs ap ps np a8
        walk_at "rd"
        obtain ⟨cl, cvs, rfl, cT, cI⟩ := hv.tupE
        obtain ⟨c0, c1, c2, c3, rfl, ci0, ci1, ci2, ci3⟩ := IsDs.four cI
        have sqc := cT.sq A.W
        walk_at "rd"
        refine ⟨cl, _, rfl, sqc, fun hw => absurd hw (by show ¬ (HT.sIx 4 0 none = 0 ∧ HT.sIx 4 4 (some 3) = 4); decide), fun _ b nb => ?_⟩
        have ec : cutV [c0, c1, c2, c3] none (some 3) = [c0, c1, c2] := rfl
        rw [ec]
        have ab : Adv [] H8 (upd H8 b (.tup [c0, c1, c2])) := Adv.new nb
        have hb : (upd H8 b (.tup [c0, c1, c2])) b = some (.tup [c0, c1, c2]) := upd_same
        have bs : b ≠ st := fun z => hs8.here (by rw [← z]; exact nb)
        have ib : Is [st] (upd H8 b (.tup [c0, c1, c2])) (.tuple [.list (ns.map Nd.data), .tuple (nD ths), .tuple (nD le)]) (.ref b) := Is.tup hb (by simpa using bs) (.cons (ci0.adv ab.nil) (.cons (ci1.adv ab.nil) (.cons (ci2.adv ab.nil) .nil)))
        replace hv := hv.adv ab.nil
        replace hs8 := hs8.same ab
        generalize (upd H8 b (.tup [c0, c1, c2])) = H9 at ib hv hs8
        clear sqc cT cI ci0 ci1 ci2 ci3 nb ab hb
        walk_at "rd"
        refine ⟨by show 3 ≤ sizeLine; decide, fun p np => ?_⟩
        have ap : Adv [] H9 (upd H9 p (.tup [.ref cl, .non, .ref b])) := Adv.new np
        have ps : p ≠ st := fun z => hs8.here (by rw [← z]; exact np)
        walk_at "rd"
        refine ⟨st, p, _, [st], rfl, hs8.same ap, .inr upd_same, ps, by simp, by simp, fun x H10 hx hs10 a10 => ?_⟩
        replace hv := hv.adv (ap.nil.trans a10)
        replace ib := ib.adv (ap.nil.trans a10)
        obtain ⟨dx, ix, zx, kx⟩ : ∃ dx, Is [st] H10 dx x ∧ sz dx ≤ 200000 ∧ dep dx ≤ 12 := by
          simp only [List.mem_cons, List.not_mem_nil, or_false] at hx
          simp only [szL_cons, szL_nil, sz_tup] at cz
          simp only [depL_cons, depL_nil, dep_tup] at cd
          rcases hx with rfl | rfl | rfl
          · exact ⟨_, hv, cz1, cd1⟩
          · exact ⟨.none, Is.non, by rw [sz1_none]; decide, by rw [dep1_none]; decide⟩
          · exact ⟨_, ib, by simp only [sz_tup, szL_cons, szL_nil]; omega, by simp only [dep_tup, depL_cons, depL_nil]; omega⟩
        clear hx ap ps np a10 hs8 ib
        walk_at "rd"
        refine ⟨⟨[st], o, x, _, rfl, al hs10, ix, zx, kx, fun H11 a11 => ?_⟩⟩
        refine ⟨_, rfl, iteN rfl ?_⟩
        walk_at "rd"
        refine ⟨⟨[st], lg, .ref cl, _, rfl, al (hs10.same a11), hv.adv a11.nil, cz1, cd1, fun H12 a12 => ?_⟩⟩
        refine ⟨_, rfl, iteN rfl ?_⟩
        exact ⟨_, _, _, _, _, _, _, rfl, (hs10.same a11).same a12⟩
end
end K05

set_option Elab.async false
set_option linter.all false
set_option maxRecDepth 100000
set_option maxHeartbeats 0
namespace K05
open PySem PySem.Spec PyProof.Rows L2 LL
/-- the tuples of the written part, and how a tuple key is hashed -/
def kwOf (K : PySem.W.Frag) (P : Program) (w : World) : KW := ⟨fun a vs => ∃ (o : Obj) (its : Array Value) (n : Nat), K.lookup a = some o ∧ o.cls = .type "tuple" ∧ o.data = .seq its n ∧ its.size ≤ sizeLine ∧ Vals vs its.toList, fun ks => (tupleKind (mixKind P w)).hash ks⟩
theorem all_mk {P : Program} {w : World} {K : PySem.W.Frag} {h : Heap} {mg : Str → Option Value} {fa : Addr} (X : K.In h) (G : h.Ns mainGlobals mg) (hfa : mg "law" = some (.ref fa)) (cx : LH.SaysY hFa hFn hTs (LH.allB hEx) w K) :
    ∃ fd : FuncData, (∀ (s : Shared) (v : Value), BindsTo s fd ⟨[v], []⟩ [("script", v)]) ∧ ∀ base : Heap, K.In base → base.Ns mainGlobals mg → FnOk P w K mg base CX0 21 fa fd ["script"] (spLaw K) := by
  have c := cx.t.d
  letI : KW := kwOf K P w
  have W : KWOk K w := ⟨fun a vs h => h, fun P2 ks => rfl⟩
  obtain ⟨D0⟩ := LH.df_of (ps := ["value"]) X G c 0 0 (x := "is_integer") (st := s_is_integer) rfl rfl fun _ _ _ _ _ _ us hl => match us, hl with | [_], _ => rfl
  obtain ⟨D1⟩ := LH.df_of (ps := ["value", "low", "high"]) X G c 1 1 (x := "is_between") (st := s_is_between) rfl rfl fun _ _ _ _ _ _ us hl => match us, hl with | [_, _, _], _ => rfl
  obtain ⟨D2⟩ := LH.df_of (ps := ["value", "many"]) X G c 2 2 (x := "is_tuple_of") (st := s_is_tuple_of) rfl rfl fun _ _ _ _ _ _ us hl => match us, hl with | [_, _], _ => rfl
  obtain ⟨D3⟩ := LH.df_of (ps := ["value", "count"]) X G c 3 3 (x := "are_any_rows") (st := s_are_any_rows) rfl rfl fun _ _ _ _ _ _ us hl => match us, hl with | [_, _], _ => rfl
  obtain ⟨D4⟩ := LH.df_of (ps := ["values"]) X G c 4 4 (x := "is_rising") (st := s_is_rising) rfl rfl fun _ _ _ _ _ _ us hl => match us, hl with | [_], _ => rfl
  obtain ⟨D5⟩ := LH.df_of (ps := ["value", "count"]) X G c 5 5 (x := "are_rows") (st := s_are_rows) rfl rfl fun _ _ _ _ _ _ us hl => match us, hl with | [_, _], _ => rfl
  obtain ⟨D6⟩ := LH.df_of (ps := ["logic"]) X G c 6 6 (x := "check_logic") (st := s_check_logic) rfl rfl fun _ _ _ _ _ _ us hl => match us, hl with | [_], _ => rfl
  obtain ⟨D7⟩ := LH.df_of (ps := ["logic"]) X G c 7 7 (x := "is_boxed") (st := s_is_boxed) rfl rfl fun _ _ _ _ _ _ us hl => match us, hl with | [_], _ => rfl
  obtain ⟨D8⟩ := LH.df_of (ps := ["value", "row", "boxed"]) X G c 8 8 (x := "is_node") (st := s_is_node) rfl rfl fun _ _ _ _ _ _ us hl => match us, hl with | [_, _, _], _ => rfl
  obtain ⟨D9⟩ := LH.df_of (ps := ["value", "most", "boxed"]) X G c 9 9 (x := "wrong_row") (st := s_wrong_row) rfl rfl fun _ _ _ _ _ _ us hl => match us, hl with | [_, _, _], _ => rfl
  obtain ⟨D10⟩ := LH.df_of (ps := ["sheet", "most", "boxed"]) X G c 10 10 (x := "check_rows_of") (st := s_check_rows_of) rfl rfl fun _ _ _ _ _ _ us hl => match us, hl with | [_, _, _], _ => rfl
  obtain ⟨D11⟩ := LH.df_of (ps := ["node"]) X G c 11 11 (x := "parts") (st := s_parts) rfl rfl fun _ _ _ _ _ _ us hl => match us, hl with | [_], _ => rfl
  obtain ⟨D12⟩ := LH.df_of (ps := ["sheet", "rows"]) X G c 12 12 (x := "rows_below") (st := s_rows_below) rfl rfl fun _ _ _ _ _ _ us hl => match us, hl with | [_, _], _ => rfl
  obtain ⟨D13⟩ := LH.df_of (ps := ["logic", "claim", "most"]) X G c 13 13 (x := "check_claim_to") (st := s_check_claim_to) rfl rfl fun _ _ _ _ _ _ us hl => match us, hl with | [_, _, _], _ => rfl
  obtain ⟨D14⟩ := LH.df_of (ps := ["logic", "claim"]) X G c 14 14 (x := "check_claim") (st := s_check_claim) rfl rfl fun _ _ _ _ _ _ us hl => match us, hl with | [_, _], _ => rfl
  obtain ⟨D15⟩ := LH.df_of (ps := ["logic", "node"]) X G c 15 15 (x := "is_key") (st := s_is_key) rfl rfl fun _ _ _ _ _ _ us hl => match us, hl with | [_, _], _ => rfl
  obtain ⟨D16⟩ := LH.df_of (ps := ["logic", "sheet", "rows"]) X G c 16 16 (x := "keys_in") (st := s_keys_in) rfl rfl fun _ _ _ _ _ _ us hl => match us, hl with | [_, _, _], _ => rfl
  obtain ⟨D17⟩ := LH.df_of (ps := ["claim"]) X G c 17 17 (x := "rows_of") (st := s_rows_of) rfl rfl fun _ _ _ _ _ _ us hl => match us, hl with | [_], _ => rfl
  obtain ⟨D18⟩ := LH.df_of (ps := ["logic", "claim"]) X G c 18 18 (x := "keys_of") (st := s_keys_of) rfl rfl fun _ _ _ _ _ _ us hl => match us, hl with | [_, _], _ => rfl
  obtain ⟨D19⟩ := LH.df_of (ps := ["script"]) X G c 19 19 (x := "_law_stream") (st := s_law_stream) rfl rfl fun _ _ _ _ _ _ us hl => match us, hl with | [_], _ => rfl
  obtain ⟨D20⟩ := LH.df_of (ps := ["stream", "many"]) X G c 20 20 (x := "_law_next") (st := s_law_next) rfl rfl fun _ _ _ _ _ _ us hl => match us, hl with | [_, _], _ => rfl
  obtain ⟨D21⟩ := LH.df_of (ps := ["stream", "rows"]) X G c 21 21 (x := "_law_pick") (st := s_law_pick) rfl rfl fun _ _ _ _ _ _ us hl => match us, hl with | [_, _], _ => rfl
  obtain ⟨D22⟩ := LH.df_of (ps := ["stream", "low", "high"]) X G c 22 22 (x := "_law_from") (st := s_law_from) rfl rfl fun _ _ _ _ _ _ us hl => match us, hl with | [_, _, _], _ => rfl
  obtain ⟨D23⟩ := LH.df_of (ps := ["stream", "rows", "share"]) X G c 23 23 (x := "_law_some") (st := s_law_some) rfl rfl fun _ _ _ _ _ _ us hl => match us, hl with | [_, _, _], _ => rfl
  obtain ⟨D24⟩ := LH.df_of (ps := ["value", "low", "high"]) X G c 24 24 (x := "_law_number") (st := s_law_number) rfl rfl fun _ _ _ _ _ _ us hl => match us, hl with | [_, _, _], _ => rfl
  obtain ⟨D25⟩ := LH.df_of (ps := ["actual", "due"]) X G c 25 25 (x := "_law_same") (st := s_law_same) rfl rfl fun _ _ _ _ _ _ us hl => match us, hl with | [_, _], _ => rfl
  obtain ⟨D26⟩ := LH.df_of (ps := ["value"]) X G c 26 26 (x := "_law_copy") (st := s_law_copy) rfl rfl fun _ _ _ _ _ _ us hl => match us, hl with | [_], _ => rfl
  obtain ⟨D27⟩ := LH.df_of (ps := ["error"]) X G c 27 27 (x := "_law_named") (st := s_law_named) rfl rfl fun _ _ _ _ _ _ us hl => match us, hl with | [_], _ => rfl
  obtain ⟨D28⟩ := LH.df_of (ps := ["book", "node"]) X G c 28 28 (x := "_law_row") (st := s_law_row) rfl rfl fun _ _ _ _ _ _ us hl => match us, hl with | [_, _], _ => rfl
  obtain ⟨D29⟩ := LH.df_of (ps := ["node"]) X G c 29 29 (x := "_law_parts") (st := s_law_parts) rfl rfl fun _ _ _ _ _ _ us hl => match us, hl with | [_], _ => rfl
  obtain ⟨D30⟩ := LH.df_of (ps := ["sheet", "rows"]) X G c 30 30 (x := "_law_below") (st := s_law_below) rfl rfl fun _ _ _ _ _ _ us hl => match us, hl with | [_, _], _ => rfl
  obtain ⟨D31⟩ := LH.df_of (ps := ["logic", "sheet", "rows"]) X G c 31 31 (x := "_law_keys") (st := s_law_keys) rfl rfl fun _ _ _ _ _ _ us hl => match us, hl with | [_, _, _], _ => rfl
  obtain ⟨D32⟩ := LH.df_of (ps := ["logic", "claim"]) X G c 32 32 (x := "_law_claim_keys") (st := s_law_claim_keys) rfl rfl fun _ _ _ _ _ _ us hl => match us, hl with | [_, _], _ => rfl
  obtain ⟨D33⟩ := LH.df_of (ps := ["stream", "book", "letters"]) X G c 33 33 (x := "_law_leaf") (st := s_law_leaf) rfl rfl fun _ _ _ _ _ _ us hl => match us, hl with | [_, _, _], _ => rfl
  obtain ⟨D34⟩ := LH.df_of (ps := ["stream", "book", "letters", "many", "boxed"]) X G c 34 34 (x := "_law_tree") (st := s_law_tree) rfl rfl fun _ _ _ _ _ _ us hl => match us, hl with | [_, _, _, _, _], _ => rfl
  obtain ⟨D35⟩ := LH.df_of (ps := ["stream", "book", "letters", "many", "boxed"]) X G c 35 35 (x := "_law_heap") (st := s_law_heap) rfl rfl fun _ _ _ _ _ _ us hl => match us, hl with | [_, _, _, _, _], _ => rfl
  obtain ⟨D36⟩ := LH.df_of (ps := ["stream", "many", "boxed"]) X G c 36 36 (x := "_law_raw") (st := s_law_raw) rfl rfl fun _ _ _ _ _ _ us hl => match us, hl with | [_, _, _], _ => rfl
  obtain ⟨D37⟩ := LH.df_of (ps := ["stream", "book", "letters", "many", "boxed"]) X G c 37 37 (x := "_law_formula") (st := s_law_formula) rfl rfl fun _ _ _ _ _ _ us hl => match us, hl with | [_, _, _, _, _], _ => rfl
  obtain ⟨D38⟩ := LH.df_of (ps := ["logic"]) X G c 38 38 (x := "_law_is_boxed") (st := s_law_is_boxed) rfl rfl fun _ _ _ _ _ _ us hl => match us, hl with | [_], _ => rfl
  obtain ⟨D39⟩ := LH.df_of (ps := ["value", "many"]) X G c 39 39 (x := "_law_is_rows") (st := s_law_is_rows) rfl rfl fun _ _ _ _ _ _ us hl => match us, hl with | [_, _], _ => rfl
  obtain ⟨D40⟩ := LH.df_of (ps := ["value", "at", "boxed"]) X G c 40 40 (x := "_law_is_node") (st := s_law_is_node) rfl rfl fun _ _ _ _ _ _ us hl => match us, hl with | [_, _, _], _ => rfl
  obtain ⟨D41⟩ := LH.df_of (ps := ["value", "most", "boxed"]) X G c 41 41 (x := "_law_wrong_row") (st := s_law_wrong_row) rfl rfl fun _ _ _ _ _ _ us hl => match us, hl with | [_, _, _], _ => rfl
  obtain ⟨D42⟩ := LH.df_of (ps := ["lines", "left", "right", "rule", "premises", "main"]) X G c 42 42 (x := "_law_line") (st := s_law_line) rfl rfl fun _ _ _ _ _ _ us hl => match us, hl with | [_, _, _, _, _, _], _ => rfl
  obtain ⟨D43⟩ := LH.df_of (ps := ["rows", "row"]) X G c 43 43 (x := "_law_less") (st := s_law_less) rfl rfl fun _ _ _ _ _ _ us hl => match us, hl with | [_, _], _ => rfl
  obtain ⟨D44⟩ := LH.df_of (ps := ["stream", "logic", "book", "lines", "letters", "one"]) X G c 44 44 (x := "_law_base") (st := s_law_base) rfl rfl fun _ _ _ _ _ _ us hl => match us, hl with | [_, _, _, _, _, _], _ => rfl
  obtain ⟨D45⟩ := LH.df_of (ps := ["stream", "book", "rows", "letters"]) X G c 45 45 (x := "_law_part") (st := s_law_part) rfl rfl fun _ _ _ _ _ _ us hl => match us, hl with | [_, _, _, _], _ => rfl
  obtain ⟨D46⟩ := LH.df_of (ps := ["stream", "logic", "book", "lines", "letters", "rule", "at"]) X G c 46 46 (x := "_law_grow_one") (st := s_law_grow_one) rfl rfl fun _ _ _ _ _ _ us hl => match us, hl with | [_, _, _, _, _, _, _], _ => rfl
  obtain ⟨D47⟩ := LH.df_of (ps := ["stream", "logic", "book", "lines", "at", "j"]) X G c 47 47 (x := "_law_grow_box") (st := s_law_grow_box) rfl rfl fun _ _ _ _ _ _ us hl => match us, hl with | [_, _, _, _, _, _], _ => rfl
  obtain ⟨D48⟩ := LH.df_of (ps := ["stream", "book", "lines", "letters", "rule", "at", "by"]) X G c 48 48 (x := "_law_grow_two") (st := s_law_grow_two) rfl rfl fun _ _ _ _ _ _ us hl => match us, hl with | [_, _, _, _, _, _, _], _ => rfl
  obtain ⟨D49⟩ := LH.df_of (ps := ["stream", "logic", "book", "theory", "lines", "letters", "cuts", "one"]) X G c 49 49 (x := "_law_grow") (st := s_law_grow) rfl rfl fun _ _ _ _ _ _ us hl => match us, hl with | [_, _, _, _, _, _, _, _], _ => rfl
  obtain ⟨D50⟩ := LH.df_of (ps := ["stream", "logic", "letters", "many", "cuts", "one"]) X G c 50 50 (x := "_law_grown") (st := s_law_grown) rfl rfl fun _ _ _ _ _ _ us hl => match us, hl with | [_, _, _, _, _, _], _ => rfl
  obtain ⟨D51⟩ := LH.df_of (ps := ["stream", "logic"]) X G c 51 51 (x := "_law_claim") (st := s_law_claim) rfl rfl fun _ _ _ _ _ _ us hl => match us, hl with | [_, _], _ => rfl
  obtain ⟨D52⟩ := LH.df_of (ps := ["stream", "claim"]) X G c 52 52 (x := "_law_bent") (st := s_law_bent) rfl rfl fun _ _ _ _ _ _ us hl => match us, hl with | [_, _], _ => rfl
  obtain ⟨D53⟩ := LH.df_of (ps := ["logic", "claim"]) X G c 53 53 (x := "_law_reason") (st := s_law_reason) rfl rfl fun _ _ _ _ _ _ us hl => match us, hl with | [_, _], _ => rfl
  obtain ⟨D54⟩ := LH.df_of (ps := ["word", "logic", "claim"]) X G c 54 54 (x := "_law_ask") (st := s_law_ask) rfl rfl fun _ _ _ _ _ _ us hl => match us, hl with | [_, _, _], _ => rfl
  obtain ⟨D55⟩ := LH.df_of (ps := ["logic", "claim"]) X G c 55 55 (x := "_law_is_answered") (st := s_law_is_answered) rfl rfl fun _ _ _ _ _ _ us hl => match us, hl with | [_, _], _ => rfl
  obtain ⟨D56⟩ := LH.df_of (ps := ["script"]) X G c 56 56 (x := "law") (st := s_law) rfl rfl fun _ _ _ _ _ _ us hl => match us, hl with | [_], _ => rfl
  obtain ⟨esI, nI, kI⟩ := cx.t.tab 0 (t := (fun K => He.ga K "ITEMS", ["letter", "no", "and", "or", "if", "box"])) rfl
  have T : Txt K mg := ⟨He.free_ok X G (c.fact 57 rfl), He.free_ok X G (c.fact 58 rfl), He.free_ok X G (c.fact 59 rfl), He.free_ok X G (c.fact 60 rfl), He.free_ok X G (c.fact 61 rfl), He.free_ok X G (c.fact 62 rfl), He.free_ok X G (c.fact 63 rfl), He.free_ok X G (c.fact 64 rfl), He.free_ok X G (c.fact 65 rfl), He.free_ok X G (c.fact 66 rfl), He.free_ok X G (c.fact 67 rfl), He.free_ok X G (c.fact 68 rfl), He.free_ok X G (c.fact 69 rfl), He.free_ok X G (c.fact 70 rfl), He.free_ok X G (c.fact 71 rfl), He.free_ok X G (c.fact 72 rfl)⟩
  have C : Con K mg w := ⟨⟨_, esI, nI, He.glo_ok X G (c.fact 73 rfl), kI, LH.items_at (LH.allB_at cx.more 0 rfl)⟩, LH.int_of X G c 74 rfl, LH.int_of X G c 75 rfl, LH.sqT_lit X G (c.fact 76 rfl) (LH.allB_at cx.more 1 rfl), LH.sqT_lit X G (c.fact 77 rfl) (LH.allB_at cx.more 2 rfl)⟩
  let A : All K mg w := ⟨T, C, W, D0, D1, D2, D3, D4, D5, D6, D7, D8, D9, D10, D11, D12, D13, D14, D15, D16, D17, D18, D19, D20, D21, D22, D23, D24, D25, D26, D27, D28, D29, D30, D31, D32, D33, D34, D35, D36, D37, D38, D39, D40, D41, D42, D43, D44, D45, D46, D47, D48, D49, D50, D51, D52, D53, D54, D55, D56⟩
  let Z : Exs K mg := ⟨He.ga K "CourtError", fun n => He.ga K n, He.glo_ok X G (c.fact 78 rfl), fun n hn => by
    simp only [allNames, List.mem_cons, List.not_mem_nil, or_false] at hn
    rcases hn with h | h | h | h | h | h | h | h | h | h | h | h | h | h | h | h
    · subst h; exact He.glo_ok X G (c.fact 79 rfl)
    · subst h; exact He.glo_ok X G (c.fact 80 rfl)
    · subst h; exact He.glo_ok X G (c.fact 81 rfl)
    · subst h; exact He.glo_ok X G (c.fact 82 rfl)
    · subst h; exact He.glo_ok X G (c.fact 83 rfl)
    · subst h; exact He.glo_ok X G (c.fact 84 rfl)
    · subst h; exact He.glo_ok X G (c.fact 85 rfl)
    · subst h; exact He.glo_ok X G (c.fact 86 rfl)
    · subst h; exact He.glo_ok X G (c.fact 87 rfl)
    · subst h; exact He.glo_ok X G (c.fact 88 rfl)
    · subst h; exact He.glo_ok X G (c.fact 89 rfl)
    · subst h; exact He.glo_ok X G (c.fact 90 rfl)
    · subst h; exact He.glo_ok X G (c.fact 91 rfl)
    · subst h; exact He.glo_ok X G (c.fact 92 rfl)
    · subst h; exact He.glo_ok X G (c.fact 93 rfl)
    · subst h; exact He.glo_ok X G (c.fact 94 rfl)⟩
  have eBadLogic := LH.errB_ok (LH.allB_at cx.more 3 rfl)
  have NBadLogic : NF Z "BadLogic" := ⟨eBadLogic.eD, eBadLogic.k, eBadLogic.kC, eBadLogic.kV, eBadLogic.hC, eBadLogic.hX⟩
  have qBadLogic := He.exc_ok (c.fact 95 rfl)
  have Z_BadLogic : Er_BadLogic Z := ⟨qBadLogic.1, qBadLogic.2.1, qBadLogic.2.2.1, qBadLogic.2.2.2, NBadLogic⟩
  have eBadSheet := LH.errB_ok (LH.allB_at cx.more 4 rfl)
  have NBadSheet : NF Z "BadSheet" := ⟨eBadSheet.eD, eBadSheet.k, eBadSheet.kC, eBadSheet.kV, eBadSheet.hC, eBadSheet.hX⟩
  have iBadSheet := LH.iniB_ok (LH.allB_at cx.more 5 rfl)
  obtain ⟨fdBadSheet, FBadSheet, BBadSheet⟩ := LH.me_of (ps := ["self", "row"]) c 57 (C := "BadSheet") (m := "__init__") (q := "BadSheet.__init__") (st := s_BadSheet) rfl fun _ _ _ _ _ _ us hl => match us, hl with | [_, _], _ => rfl
  have Z_BadSheet : Er_BadSheet Z := ⟨iBadSheet.O, _, fdBadSheet, iBadSheet.I, iBadSheet.T, FBadSheet, BBadSheet, iBadSheet.X, iBadSheet.A "row" (by simp), NBadSheet⟩
  have eBadClaim := LH.errB_ok (LH.allB_at cx.more 6 rfl)
  have NBadClaim : NF Z "BadClaim" := ⟨eBadClaim.eD, eBadClaim.k, eBadClaim.kC, eBadClaim.kV, eBadClaim.hC, eBadClaim.hX⟩
  have iBadClaim := LH.iniB_ok (LH.allB_at cx.more 7 rfl)
  obtain ⟨fdBadClaim, FBadClaim, BBadClaim⟩ := LH.me_of (ps := ["self", "word"]) c 58 (C := "BadClaim") (m := "__init__") (q := "BadClaim.__init__") (st := s_BadClaim) rfl fun _ _ _ _ _ _ us hl => match us, hl with | [_, _], _ => rfl
  have Z_BadClaim : Er_BadClaim Z := ⟨iBadClaim.O, _, fdBadClaim, iBadClaim.I, iBadClaim.T, FBadClaim, BBadClaim, iBadClaim.X, iBadClaim.A "word" (by simp), NBadClaim⟩
  have e := hfa.symm.trans A.law.m
  cases e
  exact ⟨A.law.fd, fun s v => (A.law.F.ex.elim fun _ z => z.elim fun _ z => z.elim fun _ z => z.elim fun _ z => z.elim fun _ z => z.elim fun _ z => z.elim fun _ z => z.elim fun _ z => z.elim fun _ z => by rw [z.1]; exact .of_eq rfl), fun base _ _ => ok_law A Z Z_BadLogic Z_BadSheet Z_BadClaim⟩
end K05
open PySem PySem.W PySem.Calls PyProof.Rows
set_option maxRecDepth 100000 in
set_option maxHeartbeats 0 in
theorem PySem.Challenge.cw_provedorshown_k05_whole_claims_and_keys_holds : PySem.Challenge.rw_provedorshown_k05_whole_claims_and_keys.Holds := by
  refine K05.hEnd ?hc
  case hc =>
    refine L2.walk_ofE (l := PySem.Challenge.rw_provedorshown_k05_whole_claims_and_keys) (n := 63) (k := 21) (x := "script") (CX := L2.CX0) rfl (by decide) (by kernel_rfl) ⟨rfl, by decide, by decide⟩ ?F (fun _ _ _ _ z => z)
    intro w mg fa h Y G hmg0
    obtain ⟨K, KX, c⟩ := Y
    have hmg : mg ("law" : PySem.Str) = some (.ref fa) := by
      rw [← K05.hName]
      exact hmg0
    obtain ⟨fd, hb, hF⟩ := K05.all_mk (P := (PySem.Challenge.rw_provedorshown_k05_whole_claims_and_keys).prog) (w := w) KX G hmg c
    exact ⟨K, fd, K05.spLaw K, KX, hb, fun H a ns hl _ hS => ⟨a, ns, rfl, hS, hl, fun _ => rfl⟩, hF⟩


