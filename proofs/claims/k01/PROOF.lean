import PyProof.Rows.All
import Wide.All
import OpenK.AllK
import Wide.FinOn
import HandS.ForMost
import HandS.IsInst
import HandS.Codes
import HandS.More
import HandS.TupMul
import HandS.ExcCtx
import HandS.Hot
import HandS.HotCalls
import HandS.ExcIs
import HandS.ExcField
import HandS.ExcInit
import HandS.SetFor
import HandS.Deep
import PySem.Challenge.RW_provedorshown_k01_whole_rows_of_sheets
set_option Elab.async false
set_option linter.all false
set_option maxRecDepth 100000
set_option maxHeartbeats 4000000
/-! LLib: what the proofs of several laws share. Heaps that grow while the addresses of M may change; plain data; the spec of a sheet. -/
namespace LL
open PySem PySem.Spec PyProof.Rows L2

theorem iteB {b : Bool} {A B : Prop} (h1 : b = true → A) (h2 : b = false → B) : if b = true then A else B := by
  cases b with
  | true => rw [if_pos rfl]; exact h1 rfl
  | false => rw [if_neg Bool.false_ne_true]; exact h2 rfl
theorem iteY {b : Bool} {A B : Prop} (hb : b = true) (h : A) : if b = true then A else B := by rw [if_pos hb]; exact h
theorem iteN {b : Bool} {A B : Prop} (hb : b = false) (h : B) : if b = true then A else B := by rw [hb, if_neg Bool.false_ne_true]; exact h

/-! ### heaps -/
def Adv (M : List Addr) (H H' : Hp) : Prop := ∀ b o, b ∉ M → H b = some o → H' b = some o
section
variable {M N : List Addr} {H H1 H2 H' : Hp} {p : Addr} {o u : HO}
theorem Adv.refl (M : List Addr) (H : Hp) : Adv M H H := fun _ _ _ h => h
theorem Adv.trans (a : Adv M H H1) (b : Adv M H1 H2) : Adv M H H2 := fun c o hc h => b c o hc (a c o hc h)
theorem Adv.more (a : Adv M H H') (h : ∀ b ∈ M, b ∈ N) : Adv N H H' := fun c o hc e => a c o (fun z => hc (h c z)) e
theorem Adv.new (h : H p = none) : Adv M H (upd H p o) := fun b u _ e => by
  rw [upd_ne (ne_of_none e h)]
  exact e
theorem Adv.set (h : p ∈ M) : Adv M H (upd H p o) := fun b u hb e => by
  rw [upd_ne (fun z => hb (by rw [z]; exact h))]
  exact e
theorem Adv.newT (a : Adv M H H1) (h : H1 p = none) : Adv M H (upd H1 p o) := a.trans (Adv.new h)
theorem Adv.setT (a : Adv M H H1) (h : p ∈ M) : Adv M H (upd H1 p o) := a.trans (Adv.set h)
/-- a change at an address that H does not know -/
theorem Adv.mut (a : Adv M H H1) (h : H p = none) : Adv M H (upd H1 p o) := fun b u hb e => by
  rw [upd_ne (ne_of_none e h)]
  exact a b u hb e
theorem Adv.free (a : Adv M H H') (hp : p ∉ M) (h : H' p = none) : H p = none := by
  cases q : H p with
  | none => rfl
  | some o =>
    rw [a p o hp q] at h
    cases h
theorem Adv.same (a : Adv [] H H') : Same H H' := fun b o e => a b o (by simp) e
theorem Adv.ofSame (a : Same H H') : Adv M H H' := fun b o _ e => a b o e
theorem Adv.get (a : Adv M H H') (e : H p = some o) (hp : p ∉ M) : H' p = some o := a p o hp e
/-- M's last address is new: it need not be told -/
theorem Adv.drop (a : Adv (p :: M) H H') (h : H p = none) : Adv M H H' := fun b u hb e => a b u (fun z => by
  rcases List.mem_cons.mp z with z | z
  · rw [z, h] at e; cases e
  · exact hb z) e
end
theorem ne_lst_ints {l : Addr} {c k : Int} {ns : List Int} : HO.lst [V.ref l, .int c, .int k] ≠ HO.lst (ns.map V.int) := by
  intro e
  have e2 : [V.ref l, .int c, .int k] = ns.map V.int := by injection e
  cases ns with
  | nil => cases e2
  | cons n r =>
    rw [List.map_cons] at e2
    injection e2 with h _
    cases h

/-! ### plain data -/
mutual
def Is (M : List Addr) (H : Hp) : PyData → V → Prop
  | .none, v => v = .non
  | .bool b, v => v = .bl b
  | .int i, v => v = .int i
  | .str x, v => v = .str x
  | .list ds, v => ∃ a vs, v = .ref a ∧ a ∉ M ∧ H a = some (.lst vs) ∧ IsDs M H ds vs
  | .tuple ds, v => ∃ a vs, v = .ref a ∧ a ∉ M ∧ H a = some (.tup vs) ∧ IsDs M H ds vs
  | .dict kvs, v => kvs = [] ∧ ∃ a, v = .ref a ∧ a ∉ M ∧ H a = some (.dK [])
def IsDs (M : List Addr) (H : Hp) : List PyData → List V → Prop
  | [], vs => vs = []
  | d :: ds, vs => ∃ v r, vs = v :: r ∧ Is M H d v ∧ IsDs M H ds r
end
section
variable {M N : List Addr} {H H' : Hp} {p : Addr}
mutual
theorem Is.imp (h : ∀ b o, b ∉ M → H b = some o → b ∉ N ∧ H' b = some o) : ∀ (d : PyData) (v : V), Is M H d v → Is N H' d v
  | .none, v, x => by unfold Is at x ⊢; exact x
  | .bool _, v, x => by unfold Is at x ⊢; exact x
  | .int _, v, x => by unfold Is at x ⊢; exact x
  | .str _, v, x => by unfold Is at x ⊢; exact x
  | .list ds, v, x => by
    unfold Is at x ⊢
    obtain ⟨a, vs, rfl, na, ha, hs⟩ := x
    exact ⟨a, vs, rfl, (h a _ na ha).1, (h a _ na ha).2, IsDs.imp h ds vs hs⟩
  | .tuple ds, v, x => by
    unfold Is at x ⊢
    obtain ⟨a, vs, rfl, na, ha, hs⟩ := x
    exact ⟨a, vs, rfl, (h a _ na ha).1, (h a _ na ha).2, IsDs.imp h ds vs hs⟩
  | .dict kvs, v, x => by
    unfold Is at x ⊢
    obtain ⟨rfl, a, rfl, na, ha⟩ := x
    exact ⟨rfl, a, rfl, (h a _ na ha).1, (h a _ na ha).2⟩
theorem IsDs.imp (h : ∀ b o, b ∉ M → H b = some o → b ∉ N ∧ H' b = some o) : ∀ (ds : List PyData) (vs : List V), IsDs M H ds vs → IsDs N H' ds vs
  | [], vs, x => by unfold IsDs at x ⊢; exact x
  | d :: ds, vs, x => by
    unfold IsDs at x ⊢
    obtain ⟨v, r, rfl, h1, h2⟩ := x
    exact ⟨v, r, rfl, Is.imp h d v h1, IsDs.imp h ds r h2⟩
end
theorem Is.adv {d : PyData} {v : V} (x : Is M H d v) (a : Adv M H H') : Is M H' d v := Is.imp (fun b o hb e => ⟨hb, a b o hb e⟩) d v x
theorem IsDs.adv {ds : List PyData} {vs : List V} (x : IsDs M H ds vs) (a : Adv M H H') : IsDs M H' ds vs := IsDs.imp (fun b o hb e => ⟨hb, a b o hb e⟩) ds vs x
theorem Is.less {d : PyData} {v : V} (x : Is M H d v) (h : ∀ b ∈ N, b ∈ M) : Is N H d v := Is.imp (fun b o hb e => ⟨fun z => hb (h b z), e⟩) d v x
theorem IsDs.less {ds : List PyData} {vs : List V} (x : IsDs M H ds vs) (h : ∀ b ∈ N, b ∈ M) : IsDs N H ds vs := IsDs.imp (fun b o hb e => ⟨fun z => hb (h b z), e⟩) ds vs x
theorem Is.fresh {d : PyData} {v : V} (x : Is M H d v) (h : H p = none) : Is (p :: M) H d v := Is.imp (fun b o hb e => ⟨fun z => (List.mem_cons.mp z).elim (ne_of_none e h) hb, e⟩) d v x
theorem IsDs.fresh {ds : List PyData} {vs : List V} (x : IsDs M H ds vs) (h : H p = none) : IsDs (p :: M) H ds vs := IsDs.imp (fun b o hb e => ⟨fun z => (List.mem_cons.mp z).elim (ne_of_none e h) hb, e⟩) ds vs x
theorem IsDs.len : ∀ {ds : List PyData} {vs : List V}, IsDs M H ds vs → vs.length = ds.length
  | [], vs, x => by unfold IsDs at x; rw [x]; rfl
  | d :: ds, vs, x => by
    unfold IsDs at x
    obtain ⟨v, r, rfl, _, h2⟩ := x
    rw [List.length_cons, List.length_cons, h2.len]
theorem IsDs.get : ∀ {ds : List PyData} {vs : List V} {i : Nat} {d : PyData}, IsDs M H ds vs → ds[i]? = some d → ∃ v, vs[i]? = some v ∧ Is M H d v
  | [], vs, i, d, x, e => by simp at e
  | c :: ds, vs, 0, d, x, e => by
    unfold IsDs at x
    obtain ⟨v, r, rfl, h1, h2⟩ := x
    have e' : c = d := Option.some.inj e
    subst e'
    exact ⟨v, rfl, h1⟩
  | c :: ds, vs, i + 1, d, x, e => by
    unfold IsDs at x
    obtain ⟨v, r, rfl, h1, h2⟩ := x
    exact h2.get (i := i) (by simpa using e)
theorem IsDs.getV : ∀ {ds : List PyData} {vs : List V} {i : Nat} {v : V}, IsDs M H ds vs → vs[i]? = some v → ∃ d, ds[i]? = some d ∧ Is M H d v := fun {ds vs i v} x e => by
  have hi : i < ds.length := by rw [← x.len]; exact (List.getElem?_eq_some_iff.mp e).1
  obtain ⟨w, e2, h⟩ := x.get (List.getElem?_eq_getElem hi)
  rw [e] at e2
  cases e2
  exact ⟨_, List.getElem?_eq_getElem hi, h⟩
theorem IsDs.app : ∀ {ds es : List PyData} {vs ws : List V}, IsDs M H ds vs → IsDs M H es ws → IsDs M H (ds ++ es) (vs ++ ws)
  | [], es, vs, ws, x, y => by unfold IsDs at x; subst x; exact y
  | d :: ds, es, vs, ws, x, y => by
    unfold IsDs at x
    obtain ⟨v, r, rfl, h1, h2⟩ := x
    show IsDs M H (d :: (ds ++ es)) (v :: (r ++ ws))
    unfold IsDs
    exact ⟨v, r ++ ws, rfl, h1, h2.app y⟩
theorem IsDs.one {d : PyData} {v : V} (x : Is M H d v) : IsDs M H [d] [v] := by
  unfold IsDs
  exact ⟨v, [], rfl, x, by unfold IsDs; rfl⟩
theorem IsDs.nil : IsDs M H [] [] := by unfold IsDs; rfl
theorem IsDs.cons {d : PyData} {v : V} {ds : List PyData} {vs : List V} (x : Is M H d v) (y : IsDs M H ds vs) : IsDs M H (d :: ds) (v :: vs) := by
  unfold IsDs
  exact ⟨v, vs, rfl, x, y⟩
theorem IsDs.set : ∀ {ds : List PyData} {vs : List V} {i : Nat} {d : PyData} {v : V}, IsDs M H ds vs → Is M H d v → IsDs M H (ds.set i d) (vs.set i v)
  | [], vs, i, d, v, x, y => by unfold IsDs at x; subst x; exact .nil
  | c :: ds, vs, 0, d, v, x, y => by
    unfold IsDs at x
    obtain ⟨w, r, rfl, h1, h2⟩ := x
    exact .cons y h2
  | c :: ds, vs, i + 1, d, v, x, y => by
    unfold IsDs at x
    obtain ⟨w, r, rfl, h1, h2⟩ := x
    exact .cons h1 (h2.set y)
theorem IsDs.drop : ∀ {ds : List PyData} {vs : List V} (i : Nat), IsDs M H ds vs → IsDs M H (ds.drop i) (vs.drop i)
  | ds, vs, 0, x => x
  | [], vs, i + 1, x => by unfold IsDs at x; subst x; exact .nil
  | c :: ds, vs, i + 1, x => by
    unfold IsDs at x
    obtain ⟨w, r, rfl, h1, h2⟩ := x
    exact h2.drop i
theorem Is.int {i : Int} : Is M H (.int i) (.int i) := by unfold Is; rfl
theorem Is.str {x : Str} : Is M H (.str x) (.str x) := by unfold Is; rfl
theorem Is.bl {b : Bool} : Is M H (.bool b) (.bl b) := by unfold Is; rfl
theorem Is.non : Is M H .none .non := by unfold Is; rfl
theorem Is.lst {a : Addr} {ds : List PyData} {vs : List V} (h : H a = some (.lst vs)) (hn : a ∉ M) (x : IsDs M H ds vs) : Is M H (.list ds) (.ref a) := by
  unfold Is
  exact ⟨a, vs, rfl, hn, h, x⟩
theorem Is.tup {a : Addr} {ds : List PyData} {vs : List V} (h : H a = some (.tup vs)) (hn : a ∉ M) (x : IsDs M H ds vs) : Is M H (.tuple ds) (.ref a) := by
  unfold Is
  exact ⟨a, vs, rfl, hn, h, x⟩
theorem Is.dic {a : Addr} (h : H a = some (.dK [])) (hn : a ∉ M) : Is M H (.dict []) (.ref a) := by
  unfold Is
  exact ⟨rfl, a, rfl, hn, h⟩
theorem Is.intE {i : Int} {v : V} (x : Is M H (.int i) v) : v = .int i := by unfold Is at x; exact x
theorem Is.strE {i : Str} {v : V} (x : Is M H (.str i) v) : v = .str i := by unfold Is at x; exact x
theorem Is.blE {i : Bool} {v : V} (x : Is M H (.bool i) v) : v = .bl i := by unfold Is at x; exact x
theorem Is.nonE {v : V} (x : Is M H .none v) : v = .non := by unfold Is at x; exact x
theorem Is.lstE {ds : List PyData} {v : V} (x : Is M H (.list ds) v) : ∃ a vs, v = .ref a ∧ a ∉ M ∧ H a = some (.lst vs) ∧ IsDs M H ds vs := by unfold Is at x; exact x
theorem Is.tupE {ds : List PyData} {v : V} (x : Is M H (.tuple ds) v) : ∃ a vs, v = .ref a ∧ a ∉ M ∧ H a = some (.tup vs) ∧ IsDs M H ds vs := by unfold Is at x; exact x
theorem Is.dicE {kvs : List (PyData × PyData)} {v : V} (x : Is M H (.dict kvs) v) : kvs = [] ∧ ∃ a, v = .ref a ∧ a ∉ M ∧ H a = some (.dK []) := by unfold Is at x; exact x
end
mutual
/-- how many values a datum has, itself among them -/
def sz : PyData → Nat
  | .list ds => 1 + szL ds
  | .tuple ds => 1 + szL ds
  | _ => 1
def szL : List PyData → Nat
  | [] => 0
  | d :: ds => sz d + szL ds
end
mutual
def dep : PyData → Nat
  | .list ds => 1 + depL ds
  | .tuple ds => 1 + depL ds
  | _ => 0
def depL : List PyData → Nat
  | [] => 0
  | d :: ds => max (dep d) (depL ds)
end
theorem sz_pos : ∀ d : PyData, 1 ≤ sz d
  | .none => by unfold sz; exact Nat.le_refl _
  | .bool _ => by unfold sz; exact Nat.le_refl _
  | .int _ => by unfold sz; exact Nat.le_refl _
  | .str _ => by unfold sz; exact Nat.le_refl _
  | .list ds => by unfold sz; omega
  | .tuple ds => by unfold sz; omega
  | .dict _ => by unfold sz; exact Nat.le_refl _
theorem szL_nil : szL [] = 0 := by rw [szL]
theorem szL_cons (d : PyData) (ds : List PyData) : szL (d :: ds) = sz d + szL ds := by rw [szL]
theorem szL_app : ∀ ds es : List PyData, szL (ds ++ es) = szL ds + szL es
  | [], es => by rw [List.nil_append, szL_nil, Nat.zero_add]
  | d :: ds, es => by rw [List.cons_append, szL_cons, szL_cons, szL_app ds es, Nat.add_assoc]
theorem dep_mem : ∀ {ds : List PyData} {d : PyData}, d ∈ ds → dep d ≤ depL ds
  | c :: ds, d, h => by
    unfold depL
    rcases List.mem_cons.mp h with e | h
    · rw [e]; exact Nat.le_max_left _ _
    · exact Nat.le_trans (dep_mem h) (Nat.le_max_right _ _)

/-! ### the stream of draws -/
/-- a stream stands at s: the script's copy (none of M), the cell's rest, the next cell's number -/
def StrAt (M : List Addr) (H : Hp) (s : Addr) : Prop := ∃ (l : Addr) (ns : List Int) (c k : Int), H s = some (.lst [V.ref l, .int c, .int k]) ∧ H l = some (.lst (ns.map V.int)) ∧ 0 ≤ c ∧ 0 ≤ k ∧ l ∉ M
section
variable {M N : List Addr} {H H' : Hp} {s p : Addr}
theorem StrAt.adv (x : StrAt M H s) (a : Adv N H H') (hs : s ∉ N) (hn : ∀ b ∈ N, b ∈ M) : StrAt M H' s := by
  obtain ⟨l, ns, c, k, h1, h2, h3, h4, h5⟩ := x
  exact ⟨l, ns, c, k, a _ _ hs h1, a _ _ (fun z => h5 (hn l z)) h2, h3, h4, h5⟩
theorem StrAt.same (x : StrAt M H s) (a : Adv [] H H') : StrAt M H' s := x.adv a (by simp) (fun b z => by simp at z)
theorem StrAt.fresh (x : StrAt M H s) (h : H p = none) : StrAt (p :: M) H s := by
  obtain ⟨l, ns, c, k, h1, h2, h3, h4, h5⟩ := x
  exact ⟨l, ns, c, k, h1, h2, h3, h4, fun z => (List.mem_cons.mp z).elim (ne_of_none h2 h) h5⟩
theorem StrAt.less (x : StrAt M H s) (h : ∀ b ∈ N, b ∈ M) : StrAt N H s := by
  obtain ⟨l, ns, c, k, h1, h2, h3, h4, h5⟩ := x
  exact ⟨l, ns, c, k, h1, h2, h3, h4, fun z => h5 (h l z)⟩
theorem StrAt.here (x : StrAt M H s) : H s ≠ none := by
  obtain ⟨l, ns, c, k, h1, _⟩ := x
  rw [h1]
  simp
end

/-! ### defs -/
/-- a def of the text where it stands behind the top -/
structure Df (K : PySem.W.Frag) (mg : Str → Option Value) (x : Str) (st : Stmt) (ps : List Str) where
  f : Addr
  fd : FuncData
  F : Fun K x x st f fd
  m : mg x = some (.ref f)
  b : Binds K fd ps []
theorem ix_or {X : Cx} {r r' : R2} (h : IxR X r) (h' : IxR X r') : IxR X (fun x y H Q => r x y H Q ∨ r' x y H Q) := by
  intro value slice pins s σ H x y v u Q I rx ry q e
  rcases q with q | q
  · exact h value slice pins s σ H x y v u Q I rx ry q e
  · exact h' value slice pins s σ H x y v u Q I rx ry q e
theorem call_or {X : Cx} {f : Value} {r r' : List V → Hp → VK → Prop} (h : CallR X f r) (h' : CallR X f r') : CallR X f (fun xs H Q => r xs H Q ∨ r' xs H Q) := by
  intro pins s σ H xs us Q I rx q
  rcases q with q | q
  · exact h pins s σ H xs us Q I rx q
  · exact h' pins s σ H xs us Q I rx q
theorem ix_any {X : Cx} (K : PySem.W.Frag) (h : X.K = K) : IxR X (fun x y H Q => rIxL K x y H Q ∨ rIxT K x y H Q) := by
  subst h
  exact ix_or ix_list ix_tup
end LL

set_option Elab.async false
set_option linter.all false
set_option maxRecDepth 100000
set_option maxHeartbeats 4000000
/-! LSpec: kinds of data; what a node and a sheet are -/
namespace LL
open PySem PySem.Spec PyProof.Rows L2
def tyN : PyData → String
  | .none => "NoneType"
  | .bool _ => "bool"
  | .int _ => "int"
  | .str _ => "str"
  | .list _ => "list"
  | .tuple _ => "tuple"
  | .dict _ => "dict"
theorem Is.ty {K : PySem.W.Frag} {M : List Addr} {H : Hp} : ∀ {d : PyData} {v : V}, Is M H d v → TyX K H v (.type (tyN d))
  | .none, v, x => by rw [x.nonE]; exact .base .non
  | .bool _, v, x => by rw [x.blE]; exact .base (.bl _)
  | .int _, v, x => by rw [x.intE]; exact .base (.int _)
  | .str _, v, x => by rw [x.strE]; exact .base (.str _)
  | .list _, v, x => by
    obtain ⟨a, vs, rfl, _, h, _⟩ := x.lstE
    exact .base (.lst h)
  | .tuple _, v, x => by
    obtain ⟨a, vs, rfl, _, h, _⟩ := x.tupE
    exact .base (.tup h)
  | .dict _, v, x => by
    obtain ⟨_, a, rfl, _, h⟩ := x.dicE
    exact .base (.dK h)
/-- isinstance(v, one of the six built-in kinds) -/
def kitD (d : PyData) (n : String) : Bool := match d with
  | .bool _ => n == "bool" || n == "int"
  | d => n == tyN d
theorem kit_one {K : PySem.W.Frag} (d : PyData) (n : String) (h : n = "int" ∨ n = "bool" ∨ n = "str" ∨ n = "list" ∨ n = "tuple" ∨ n = "dict") : PySem.W.kitOne K (.type (tyN d)) (.type n) = some (kitD d n) := by
  refine kit_ty ?_
  have fin : ∀ t ∈ ["NoneType", "bool", "int", "str", "list", "tuple", "dict"], ∀ n ∈ ["int", "bool", "str", "list", "tuple", "dict"], kitB t n = some (if t = "bool" then (n == "bool" || n == "int") else n == t) := by decide +kernel
  have hn : n ∈ ["int", "bool", "str", "list", "tuple", "dict"] := by simpa using h
  cases d with
  | bool b => exact fin "bool" (by simp) n hn
  | none => exact fin "NoneType" (by simp) n hn
  | int i => exact fin "int" (by simp) n hn
  | str i => exact fin "str" (by simp) n hn
  | list i => exact fin "list" (by simp) n hn
  | tuple i => exact fin "tuple" (by simp) n hn
  | dict i => exact fin "dict" (by simp) n hn
theorem k_int {K : PySem.W.Frag} (d : PyData) : PySem.W.kitOne K (.type (tyN d)) (.type "int") = some (kitD d "int") := kit_one d "int" (by simp)
theorem k_bool {K : PySem.W.Frag} (d : PyData) : PySem.W.kitOne K (.type (tyN d)) (.type "bool") = some (kitD d "bool") := kit_one d "bool" (by simp)
theorem k_str {K : PySem.W.Frag} (d : PyData) : PySem.W.kitOne K (.type (tyN d)) (.type "str") = some (kitD d "str") := kit_one d "str" (by simp)
theorem k_list {K : PySem.W.Frag} (d : PyData) : PySem.W.kitOne K (.type (tyN d)) (.type "list") = some (kitD d "list") := kit_one d "list" (by simp)
theorem k_tuple {K : PySem.W.Frag} (d : PyData) : PySem.W.kitOne K (.type (tyN d)) (.type "tuple") = some (kitD d "tuple") := kit_one d "tuple" (by simp)
theorem k_dict {K : PySem.W.Frag} (d : PyData) : PySem.W.kitOne K (.type (tyN d)) (.type "dict") = some (kitD d "dict") := kit_one d "dict" (by simp)
/-! ### nodes -/
def isNum (lo hi : Int) : PyData → Bool
  | .int i => decide (lo ≤ i) && decide (i ≤ hi)
  | _ => false
/-- how many items a node of this word has -/
def nItems (w : Str) : Option Nat :=
  if w = "letter" then some 2 else if w = "no" then some 1 else if w = "and" then some 3 else if w = "or" then some 3 else if w = "if" then some 3 else if w = "box" then some 2 else none
def nodeB (boxed : Bool) (row : Int) : PyData → Bool
  | .tuple (.str w :: ps) => if nItems w = some (ps.length + 1) then (if w = "letter" then ps.all (isNum 0 7) else if w = "box" && !boxed then false else ps.all (isNum 0 (row - 1))) else false
  | _ => false
/-- a node as a key -/
def keyD : PyData → Key
  | .int i => .inl i
  | .str x => .inr x
  | _ => .inl 0
def keysD : PyData → List Key
  | .tuple ds => ds.map keyD
  | _ => []
/-- the first wrong row behind row at, whose earlier nodes are seen -/
def memK (k : List Key) (l : List (List Key)) : Bool := l.any fun x => decide (x = k)
def wrongF (most : Int) (boxed : Bool) : Int → List (List Key) → List PyData → Option Int
  | _, _, [] => none
  | at_, seen, d :: ds => if at_ < most then (if nodeB boxed at_ d then (if memK (keysD d) seen = true then some at_ else wrongF most boxed (at_ + 1) (seen ++ [keysD d]) ds) else some at_) else some at_
def wrongD (most : Int) (boxed : Bool) : PyData → Option Int
  | .list ds => wrongF most boxed 0 [] ds
  | _ => some (-1)
theorem node_keys {boxed : Bool} {row : Int} {d : PyData} {v : V} {M : List Addr} {H : Hp} (x : Is M H d v) (h : nodeB boxed row d = true) : ∃ a, v = .ref a ∧ a ∉ M ∧ H a = some (.tup ((keysD d).map kV)) := by
  unfold nodeB at h
  split at h
  · rename_i w ps
    obtain ⟨a, vs, rfl, na, ha, hs⟩ := x.tupE
    refine ⟨a, rfl, na, ?_⟩
    rw [ha]
    have hall : ∀ p ∈ ps, ∃ i, p = .int i := by
      have num : ∀ lo hi, ps.all (isNum lo hi) = true → ∀ p ∈ ps, ∃ i, p = PyData.int i := fun lo hi hh p hp => by
        have q := List.all_eq_true.mp hh p hp
        cases p with
        | int i => exact ⟨i, rfl⟩
        | _ => cases q
      split at h
      · split at h
        · exact num _ _ h
        · split at h
          · cases h
          · exact num _ _ h
      · cases h
    have key : ∀ (ds : List PyData) (vs : List V), (∀ p ∈ ds, ∃ i, p = PyData.int i) → IsDs M H ds vs → vs = (ds.map keyD).map kV := by
      intro ds
      induction ds with
      | nil => intro vs _ y; unfold IsDs at y; exact y
      | cons c ds ih =>
        intro vs hh y
        unfold IsDs at y
        obtain ⟨u, r, rfl, h1, h2⟩ := y
        obtain ⟨i, rfl⟩ := hh c (by simp)
        rw [h1.intE, ih r (fun p hp => hh p (by simp [hp])) h2]
        rfl
    unfold IsDs at hs
    obtain ⟨u, r, rfl, h1, h2⟩ := hs
    rw [h1.strE, key ps r hall h2]
    rfl
  · cases h
end LL

set_option Elab.async false
set_option linter.all false
set_option maxRecDepth 100000
set_option maxHeartbeats 4000000
/-! LMore: a written dict's get; comprehensions that map -/
namespace LL
open PySem PySem.Spec PyProof.Rows L2
theorem SqT.adv {K : PySem.W.Frag} {H H' : Hp} {a : Addr} {xs : List V} (e : Adv [] H H') (h : SqT K H a xs) : SqT K H' a xs := by
  rcases h with (h | ⟨o, h⟩) | h
  · exact .inl (.inl (e.same _ _ h))
  · exact .inl (.inr ⟨o, e.same _ _ h⟩)
  · exact .inr h
theorem SqL.adv {K : PySem.W.Frag} {H H' : Hp} {a : Addr} {xs : List V} (e : Adv [] H H') (h : SqL K H a xs) : SqL K H' a xs := by
  rcases h with (h | ⟨o, h⟩) | h
  · exact .inl (.inl (e.same _ _ h))
  · exact .inl (.inr ⟨o, e.same _ _ h⟩)
  · exact .inr h
/-- d.get(k), d a dict of the text's top whose keys are texts -/
def tKGet (K : PySem.W.Frag) (w : World) (td ty : TE) : TE := fun σ H Q => td σ H fun x H1 => ∃ (d : Addr) (es : Array DictEntry) (n : Nat), x = .ref d ∧ KDict K w d es n ∧
  ty σ H1 fun y H2 => ∃ (z : Str) (r : Option Value) (v : V), y = .str z ∧ PySem.W.nsIn K d z = some r ∧ RelV v (r.getD .none) ∧ Q v H2
theorem pe_kget {X : Cx} {o e : Expr} {apos cpos : Pos} {td ty : TE} (ho : PE X o td) (he : PE X e ty) (m : M1 X o "get" apos e cpos) : PE X (.Call (.Attribute o "get" apos) [e] [] cpos) (tKGet X.K X.w td ty) := by
  refine ⟨fun pins s σ H Q I h => ?_⟩
  refine wpAny_Call_method m.base m.few m.line PySem.F.plainAttrs_dict PySem.F.slot_dict_get PySem.F.type_dict_get (thn (ho.run pins s σ H _ I h) fun u s1 q => ?_)
  obtain ⟨x, H1, I1, rx, d, es, n, ex, KD, q1⟩ := q
  subst ex
  cases (show u = Value.ref d from rx)
  refine ⟨kd_type KD I1, fun b eb => ?_, ?_⟩
  · cases eb
    exact ⟨_, I1.kIn _ _ KD.at_, rfl⟩
  · rw [m.trees]
    refine Calls.callWith_builtin rfl (Calls.evalArgs_plain (Calls.spliced_cons (thn (he.run pins s1 σ H1 _ I1 q1) fun iv s2 q2 => Calls.spliced_nil ?_)))
    obtain ⟨y, H2, I2, ry, z, r, v, ey, en, rv, q3⟩ := q2
    subst ey
    obtain ⟨t, rfl⟩ := ry
    have mo := PySem.W.mapOf_K (prog := X.prog) (w := X.w) I2.kIn KD.at_ KD.lit
    refine call_meetsIn PySem.F.slot_dict_get mo.typeIs PySem.F.entry_dict_get (PySem.F.args_dict_get_2 _ _) (meets_dict_get (strKind X.prog X.w) d (PySem.strKind_is X.prog X.w z t) KD.low) ⟨_, mo, ⟨v, H2, I2.tok _, ?_, q3⟩⟩
    rw [PySem.W.find_K KD.at_ en]
    exact rv
section
variable {K : PySem.W.Frag} {a D : Addr} {xs : List V} {g : TG} {te : TE} {vs : List Nat} {σ : L2.St} {H1 : Hp} {Qd : Hp → Prop}
theorem range_map_succ (ys : Nat → V) (i : Nat) : (List.range (i + 1)).map ys = (List.range i).map ys ++ [ys i] := by rw [List.range_succ, List.map_append]; rfl
/-- [e for x in t], t a tuple: e gives ys i at its i-th item -/
theorem lc_mapT (ys : Nat → V) (hD : H1 D = none) (src : SqT K H1 a xs) (hz : xs.length ≤ 1000000)
    (hs : ∀ (i : Nat) (x : V) (H : Hp) (acc : List V) (R : V → Hp → Prop), xs[i]? = some x → Adv [] H1 H → H D = some (.lst acc) → (∀ H4, H4 D = some (.lst acc) → Adv [] H1 H4 → R (ys i) H4) → g x (wipe σ vs) H fun σ2 H2 => wipe σ2 vs = wipe σ vs ∧ te σ2 H2 R)
    (hd : ∀ H, Adv [] H1 H → H D = some (.lst ((List.range xs.length).map ys)) → Qd H) :
    ∃ W : Nat → Nat → Hp → Prop, (∃ m, W 0 m (upd H1 D (.lst []))) ∧ ∀ i m H, W i m H →
      ((Itt K a).stop i H ∧ Qd H) ∨ ((Itt K a).go i H ∧ ∃ Nx : Hp → Prop, (∀ H', Nx H' → ∃ m', m' < m ∧ W (i + 1) m' H') ∧ ∀ x H', (Itt K a).yld i H x H' → g x (wipe σ vs) H' fun σ2 H2 => wipe σ2 vs = wipe σ vs ∧ tYes σ2 H2 fun b H3 =>
        if b = true then te σ2 H3 fun y H4 => ∃ acc, H4 D = some (.lst acc) ∧ acc.length < sizeLine ∧ Nx (upd H4 D (.lst (acc ++ [y]))) else Nx H3) := by
  refine lc_tup (K := K) (a := a) (xs := xs) (tt := tYes) (fun i H => Adv [] H1 H ∧ H D = some (.lst ((List.range i).map ys))) ⟨Adv.new hD, upd_same⟩ (fun i H _ p => SqT.adv p.1 src) (fun i x H hx p => ?_) (fun H p => hd H p.1 p.2)
  have hi : i < xs.length := (List.getElem?_eq_some_iff.mp hx).1
  refine hs i x H _ (fun y H4 => ∃ acc, H4 D = some (.lst acc) ∧ acc.length < sizeLine ∧ Adv [] H1 (upd H4 D (.lst (acc ++ [y]))) ∧ (upd H4 D (.lst (acc ++ [y]))) D = some (.lst ((List.range (i + 1)).map ys))) hx p.1 p.2 (fun H4 e4 a4 => ⟨_, e4, ?_, Adv.mut a4 hD, ?_⟩)
  · rw [List.length_map, List.length_range, sizeLine_eq]
    omega
  · rw [upd_same, range_map_succ]
theorem lc_mapL (ys : Nat → V) (hD : H1 D = none) (src : SqL K H1 a xs) (hz : xs.length ≤ 1000000)
    (hs : ∀ (i : Nat) (x : V) (H : Hp) (acc : List V) (R : V → Hp → Prop), xs[i]? = some x → Adv [] H1 H → H D = some (.lst acc) → (∀ H4, H4 D = some (.lst acc) → Adv [] H1 H4 → R (ys i) H4) → g x (wipe σ vs) H fun σ2 H2 => wipe σ2 vs = wipe σ vs ∧ te σ2 H2 R)
    (hd : ∀ H, Adv [] H1 H → H D = some (.lst ((List.range xs.length).map ys)) → Qd H) :
    ∃ W : Nat → Nat → Hp → Prop, (∃ m, W 0 m (upd H1 D (.lst []))) ∧ ∀ i m H, W i m H →
      ((Itl K a).stop i H ∧ Qd H) ∨ ((Itl K a).go i H ∧ ∃ Nx : Hp → Prop, (∀ H', Nx H' → ∃ m', m' < m ∧ W (i + 1) m' H') ∧ ∀ x H', (Itl K a).yld i H x H' → g x (wipe σ vs) H' fun σ2 H2 => wipe σ2 vs = wipe σ vs ∧ tYes σ2 H2 fun b H3 =>
        if b = true then te σ2 H3 fun y H4 => ∃ acc, H4 D = some (.lst acc) ∧ acc.length < sizeLine ∧ Nx (upd H4 D (.lst (acc ++ [y]))) else Nx H3) := by
  refine lc_list (K := K) (a := a) (xs := xs) (tt := tYes) (fun i H => Adv [] H1 H ∧ H D = some (.lst ((List.range i).map ys))) ⟨Adv.new hD, upd_same⟩ (fun i H _ p => SqL.adv p.1 src) (fun i x H hx p => ?_) (fun H p => hd H p.1 p.2)
  have hi : i < xs.length := (List.getElem?_eq_some_iff.mp hx).1
  refine hs i x H _ (fun y H4 => ∃ acc, H4 D = some (.lst acc) ∧ acc.length < sizeLine ∧ Adv [] H1 (upd H4 D (.lst (acc ++ [y]))) ∧ (upd H4 D (.lst (acc ++ [y]))) D = some (.lst ((List.range (i + 1)).map ys))) hx p.1 p.2 (fun H4 e4 a4 => ⟨_, e4, ?_, Adv.mut a4 hD, ?_⟩)
  · rw [List.length_map, List.length_range, sizeLine_eq]
    omega
  · rw [upd_same, range_map_succ]
theorem lc_mapR {n : Nat} (ys : Nat → V) (hD : H1 D = none) (hz : n ≤ 1000000)
    (hs : ∀ (i : Nat) (H : Hp) (acc : List V) (R : V → Hp → Prop), i < n → Adv [] H1 H → H D = some (.lst acc) → (∀ H4, H4 D = some (.lst acc) → Adv [] H1 H4 → R (ys i) H4) → g (.int (0 + (i : Nat))) (wipe σ vs) H fun σ2 H2 => wipe σ2 vs = wipe σ vs ∧ te σ2 H2 R)
    (hd : ∀ H, Adv [] H1 H → H D = some (.lst ((List.range n).map ys)) → Qd H) :
    ∃ W : Nat → Nat → Hp → Prop, (∃ m, W 0 m (upd H1 D (.lst []))) ∧ ∀ i m H, W i m H →
      ((Itr 0 n).stop i H ∧ Qd H) ∨ ((Itr 0 n).go i H ∧ ∃ Nx : Hp → Prop, (∀ H', Nx H' → ∃ m', m' < m ∧ W (i + 1) m' H') ∧ ∀ x H', (Itr 0 n).yld i H x H' → g x (wipe σ vs) H' fun σ2 H2 => wipe σ2 vs = wipe σ vs ∧ tYes σ2 H2 fun b H3 =>
        if b = true then te σ2 H3 fun y H4 => ∃ acc, H4 D = some (.lst acc) ∧ acc.length < sizeLine ∧ Nx (upd H4 D (.lst (acc ++ [y]))) else Nx H3) := by
  refine lc_range (lo := 0) (n := n) (tt := tYes) (fun i H => Adv [] H1 H ∧ H D = some (.lst ((List.range i).map ys))) ⟨Adv.new hD, upd_same⟩ (fun i H hi p => ?_) (fun H p => hd H p.1 p.2)
  refine hs i H _ (fun y H4 => ∃ acc, H4 D = some (.lst acc) ∧ acc.length < sizeLine ∧ Adv [] H1 (upd H4 D (.lst (acc ++ [y]))) ∧ (upd H4 D (.lst (acc ++ [y]))) D = some (.lst ((List.range (i + 1)).map ys))) hi p.1 p.2 (fun H4 e4 a4 => ⟨_, e4, ?_, Adv.mut a4 hD, ?_⟩)
  · rw [List.length_map, List.length_range, sizeLine_eq]
    omega
  · rw [upd_same, range_map_succ]
theorem lc_dataR {M : List Addr} {n : Nat} (ds : List PyData) (hn : n = ds.length) (hD : H1 D = none) (hz : n ≤ 1000000)
    (hs : ∀ (i : Nat) (d : PyData) (H : Hp) (acc : List V) (R : V → Hp → Prop), ds[i]? = some d → Adv [] H1 H → H D = some (.lst acc) → (∀ y H4, H4 D = some (.lst acc) → Adv [D] H H4 → Is (D :: M) H4 d y → R y H4) → g (.int (0 + (i : Nat))) (wipe σ vs) H fun σ2 H2 => wipe σ2 vs = wipe σ vs ∧ te σ2 H2 R)
    (hd : ∀ H acc, Adv [] H1 H → H D = some (.lst acc) → IsDs (D :: M) H ds acc → Qd H) :
    ∃ W : Nat → Nat → Hp → Prop, (∃ m, W 0 m (upd H1 D (.lst []))) ∧ ∀ i m H, W i m H →
      ((Itr 0 n).stop i H ∧ Qd H) ∨ ((Itr 0 n).go i H ∧ ∃ Nx : Hp → Prop, (∀ H', Nx H' → ∃ m', m' < m ∧ W (i + 1) m' H') ∧ ∀ x H', (Itr 0 n).yld i H x H' → g x (wipe σ vs) H' fun σ2 H2 => wipe σ2 vs = wipe σ vs ∧ tYes σ2 H2 fun b H3 =>
        if b = true then te σ2 H3 fun y H4 => ∃ acc, H4 D = some (.lst acc) ∧ acc.length < sizeLine ∧ Nx (upd H4 D (.lst (acc ++ [y]))) else Nx H3) := by
  refine lc_range (lo := 0) (n := n) (tt := tYes) (fun i H => Adv [] H1 H ∧ ∃ acc, H D = some (.lst acc) ∧ IsDs (D :: M) H (ds.take i) acc) ⟨Adv.new hD, [], upd_same, .nil⟩ (fun i H hx p => ?_) (fun H p => ?_)
  · have hi : i < ds.length := by
      rw [← hn]
      exact hx
    obtain ⟨a1, acc, hacc, hds⟩ := p
    have hlen := hds.len
    rw [List.length_take, Nat.min_eq_left (Nat.le_of_lt hi)] at hlen
    refine hs i (ds[i]) H acc (fun y H4 => ∃ acc, H4 D = some (.lst acc) ∧ acc.length < sizeLine ∧ Adv [] H1 (upd H4 D (.lst (acc ++ [y]))) ∧ ∃ acc', (upd H4 D (.lst (acc ++ [y]))) D = some (.lst acc') ∧ IsDs (D :: M) (upd H4 D (.lst (acc ++ [y]))) (ds.take (i + 1)) acc')
      (List.getElem?_eq_getElem hi) a1 hacc (fun y H4 e4 a4 hy => ⟨acc, e4, by rw [sizeLine_eq]; omega, ?_, acc ++ [y], upd_same, ?_⟩)
    · exact Adv.mut (((a1.more (N := [D]) (by simp)).trans a4).drop hD) hD
    · have e1 : ds.take (i + 1) = ds.take i ++ [ds[i]] := by rw [List.take_succ, List.getElem?_eq_getElem hi]; rfl
      rw [e1]
      have m1 : ∀ b ∈ [D], b ∈ D :: M := fun b hb => by simp at hb; simp [hb]
      exact ((hds.adv (a4.more m1)).adv (Adv.set (by simp))).app (IsDs.one (hy.adv (Adv.set (by simp))))
  · obtain ⟨a1, acc, hacc, hds⟩ := p
    rw [hn, List.take_length] at hds
    exact hd H acc a1 hacc hds
theorem lc_dataL {M : List Addr} (ds : List PyData) (hn : xs.length = ds.length) (hD : H1 D = none) (src : SqL K H1 a xs) (hz : xs.length ≤ 1000000)
    (hs : ∀ (i : Nat) (x : V) (d : PyData) (H : Hp) (acc : List V) (R : V → Hp → Prop), xs[i]? = some x → ds[i]? = some d → Adv [] H1 H → H D = some (.lst acc) → (∀ y H4, H4 D = some (.lst acc) → Adv [D] H H4 → Is (D :: M) H4 d y → R y H4) → g x (wipe σ vs) H fun σ2 H2 => wipe σ2 vs = wipe σ vs ∧ te σ2 H2 R)
    (hd : ∀ H acc, Adv [] H1 H → H D = some (.lst acc) → IsDs (D :: M) H ds acc → Qd H) :
    ∃ W : Nat → Nat → Hp → Prop, (∃ m, W 0 m (upd H1 D (.lst []))) ∧ ∀ i m H, W i m H →
      ((Itl K a).stop i H ∧ Qd H) ∨ ((Itl K a).go i H ∧ ∃ Nx : Hp → Prop, (∀ H', Nx H' → ∃ m', m' < m ∧ W (i + 1) m' H') ∧ ∀ x H', (Itl K a).yld i H x H' → g x (wipe σ vs) H' fun σ2 H2 => wipe σ2 vs = wipe σ vs ∧ tYes σ2 H2 fun b H3 =>
        if b = true then te σ2 H3 fun y H4 => ∃ acc, H4 D = some (.lst acc) ∧ acc.length < sizeLine ∧ Nx (upd H4 D (.lst (acc ++ [y]))) else Nx H3) := by
  refine lc_list (K := K) (a := a) (xs := xs) (tt := tYes) (fun i H => Adv [] H1 H ∧ ∃ acc, H D = some (.lst acc) ∧ IsDs (D :: M) H (ds.take i) acc) ⟨Adv.new hD, [], upd_same, .nil⟩ (fun i H _ p => SqL.adv p.1 src) (fun i x H hx p => ?_) (fun H p => ?_)
  · have hi : i < ds.length := by
      rw [← hn]
      exact (List.getElem?_eq_some_iff.mp hx).1
    obtain ⟨a1, acc, hacc, hds⟩ := p
    have hlen := hds.len
    rw [List.length_take, Nat.min_eq_left (Nat.le_of_lt hi)] at hlen
    refine hs i x (ds[i]) H acc (fun y H4 => ∃ acc, H4 D = some (.lst acc) ∧ acc.length < sizeLine ∧ Adv [] H1 (upd H4 D (.lst (acc ++ [y]))) ∧ ∃ acc', (upd H4 D (.lst (acc ++ [y]))) D = some (.lst acc') ∧ IsDs (D :: M) (upd H4 D (.lst (acc ++ [y]))) (ds.take (i + 1)) acc')
      hx (List.getElem?_eq_getElem hi) a1 hacc (fun y H4 e4 a4 hy => ⟨acc, e4, by rw [sizeLine_eq]; omega, ?_, acc ++ [y], upd_same, ?_⟩)
    · exact Adv.mut (((a1.more (N := [D]) (by simp)).trans a4).drop hD) hD
    · have e1 : ds.take (i + 1) = ds.take i ++ [ds[i]] := by rw [List.take_succ, List.getElem?_eq_getElem hi]; rfl
      rw [e1]
      have m1 : ∀ b ∈ [D], b ∈ D :: M := fun b hb => by simp at hb; simp [hb]
      exact ((hds.adv (a4.more m1)).adv (Adv.set (by simp))).app (IsDs.one (hy.adv (Adv.set (by simp))))
  · obtain ⟨a1, acc, hacc, hds⟩ := p
    rw [hn, List.take_length] at hds
    exact hd H acc a1 hacc hds
theorem lc_dataT {M : List Addr} (ds : List PyData) (hn : xs.length = ds.length) (hD : H1 D = none) (src : SqT K H1 a xs) (hz : xs.length ≤ 1000000)
    (hs : ∀ (i : Nat) (x : V) (d : PyData) (H : Hp) (acc : List V) (R : V → Hp → Prop), xs[i]? = some x → ds[i]? = some d → Adv [] H1 H → H D = some (.lst acc) → (∀ y H4, H4 D = some (.lst acc) → Adv [D] H H4 → Is (D :: M) H4 d y → R y H4) → g x (wipe σ vs) H fun σ2 H2 => wipe σ2 vs = wipe σ vs ∧ te σ2 H2 R)
    (hd : ∀ H acc, Adv [] H1 H → H D = some (.lst acc) → IsDs (D :: M) H ds acc → Qd H) :
    ∃ W : Nat → Nat → Hp → Prop, (∃ m, W 0 m (upd H1 D (.lst []))) ∧ ∀ i m H, W i m H →
      ((Itt K a).stop i H ∧ Qd H) ∨ ((Itt K a).go i H ∧ ∃ Nx : Hp → Prop, (∀ H', Nx H' → ∃ m', m' < m ∧ W (i + 1) m' H') ∧ ∀ x H', (Itt K a).yld i H x H' → g x (wipe σ vs) H' fun σ2 H2 => wipe σ2 vs = wipe σ vs ∧ tYes σ2 H2 fun b H3 =>
        if b = true then te σ2 H3 fun y H4 => ∃ acc, H4 D = some (.lst acc) ∧ acc.length < sizeLine ∧ Nx (upd H4 D (.lst (acc ++ [y]))) else Nx H3) := by
  refine lc_tup (K := K) (a := a) (xs := xs) (tt := tYes) (fun i H => Adv [] H1 H ∧ ∃ acc, H D = some (.lst acc) ∧ IsDs (D :: M) H (ds.take i) acc) ⟨Adv.new hD, [], upd_same, .nil⟩ (fun i H _ p => SqT.adv p.1 src) (fun i x H hx p => ?_) (fun H p => ?_)
  · have hi : i < ds.length := by
      rw [← hn]
      exact (List.getElem?_eq_some_iff.mp hx).1
    obtain ⟨a1, acc, hacc, hds⟩ := p
    have hlen := hds.len
    rw [List.length_take, Nat.min_eq_left (Nat.le_of_lt hi)] at hlen
    refine hs i x (ds[i]) H acc (fun y H4 => ∃ acc, H4 D = some (.lst acc) ∧ acc.length < sizeLine ∧ Adv [] H1 (upd H4 D (.lst (acc ++ [y]))) ∧ ∃ acc', (upd H4 D (.lst (acc ++ [y]))) D = some (.lst acc') ∧ IsDs (D :: M) (upd H4 D (.lst (acc ++ [y]))) (ds.take (i + 1)) acc')
      hx (List.getElem?_eq_getElem hi) a1 hacc (fun y H4 e4 a4 hy => ⟨acc, e4, by rw [sizeLine_eq]; omega, ?_, acc ++ [y], upd_same, ?_⟩)
    · exact Adv.mut (((a1.more (N := [D]) (by simp)).trans a4).drop hD) hD
    · have e1 : ds.take (i + 1) = ds.take i ++ [ds[i]] := by rw [List.take_succ, List.getElem?_eq_getElem hi]; rfl
      rw [e1]
      have m1 : ∀ b ∈ [D], b ∈ D :: M := fun b hb => by simp at hb; simp [hb]
      exact ((hds.adv (a4.more m1)).adv (Adv.set (by simp))).app (IsDs.one (hy.adv (Adv.set (by simp))))
  · obtain ⟨a1, acc, hacc, hds⟩ := p
    rw [hn, List.take_length] at hds
    exact hd H acc a1 hacc hds
theorem range_filt_succ (ys : Nat → V) (c : Nat → Bool) (i : Nat) : ((List.range (i + 1)).filter c).map ys = ((List.range i).filter c).map ys ++ (if c i = true then [ys i] else []) := by
  rw [List.range_succ, List.filter_append, List.map_append]
  congr 1
  cases h : c i <;> simp [h]
/-- [e for x in t if c], t a tuple -/
theorem lc_filtT {tt : TT} (ys : Nat → V) (c : Nat → Bool) (hD : H1 D = none) (src : SqT K H1 a xs) (hz : xs.length ≤ 1000000)
    (hs : ∀ (i : Nat) (x : V) (H : Hp) (acc : List V) (R : V → Hp → Prop) (R0 : Hp → Prop), xs[i]? = some x → Adv [] H1 H → H D = some (.lst acc) → (c i = true → ∀ H4, H4 D = some (.lst acc) → Adv [] H1 H4 → R (ys i) H4) →
      (c i = false → ∀ H4, H4 D = some (.lst acc) → Adv [] H1 H4 → R0 H4) → g x (wipe σ vs) H fun σ2 H2 => wipe σ2 vs = wipe σ vs ∧ tt σ2 H2 fun b H3 => if b = true then te σ2 H3 R else R0 H3)
    (hd : ∀ H, Adv [] H1 H → H D = some (.lst (((List.range xs.length).filter c).map ys)) → Qd H) :
    ∃ W : Nat → Nat → Hp → Prop, (∃ m, W 0 m (upd H1 D (.lst []))) ∧ ∀ i m H, W i m H →
      ((Itt K a).stop i H ∧ Qd H) ∨ ((Itt K a).go i H ∧ ∃ Nx : Hp → Prop, (∀ H', Nx H' → ∃ m', m' < m ∧ W (i + 1) m' H') ∧ ∀ x H', (Itt K a).yld i H x H' → g x (wipe σ vs) H' fun σ2 H2 => wipe σ2 vs = wipe σ vs ∧ tt σ2 H2 fun b H3 =>
        if b = true then te σ2 H3 fun y H4 => ∃ acc, H4 D = some (.lst acc) ∧ acc.length < sizeLine ∧ Nx (upd H4 D (.lst (acc ++ [y]))) else Nx H3) := by
  refine lc_tup (K := K) (a := a) (xs := xs) (tt := tt) (fun i H => Adv [] H1 H ∧ H D = some (.lst (((List.range i).filter c).map ys))) ⟨Adv.new hD, upd_same⟩ (fun i H _ p => SqT.adv p.1 src) (fun i x H hx p => ?_) (fun H p => hd H p.1 p.2)
  have hi : i < xs.length := (List.getElem?_eq_some_iff.mp hx).1
  refine hs i x H _ (fun y H4 => ∃ acc, H4 D = some (.lst acc) ∧ acc.length < sizeLine ∧ Adv [] H1 (upd H4 D (.lst (acc ++ [y]))) ∧ (upd H4 D (.lst (acc ++ [y]))) D = some (.lst (((List.range (i + 1)).filter c).map ys)))
    (fun H3 => Adv [] H1 H3 ∧ H3 D = some (.lst (((List.range (i + 1)).filter c).map ys))) hx p.1 p.2 (fun hc H4 e4 a4 => ⟨_, e4, ?_, Adv.mut a4 hD, ?_⟩) (fun hc H4 e4 a4 => ⟨a4, ?_⟩)
  · have h1 := List.length_filter_le c (List.range i)
    rw [List.length_range] at h1
    rw [List.length_map, sizeLine_eq]
    omega
  · rw [upd_same, range_filt_succ, if_pos hc]
  · rw [e4, range_filt_succ, if_neg (by rw [hc]; decide), List.append_nil]
end
theorem range_map_list {ds : List PyData} (f : PyData → Bool) : ((List.range ds.length).map fun i => V.bl (f (ds.getD i .none))) = (ds.map f).map V.bl := by
  apply List.ext_getElem
  · simp
  · intro i h1 h2
    have h : i < ds.length := by simpa using h1
    simp [h]
/-! ### dicts whose keys are tuples -/
theorem val_mem (kvs : List (List Key × V)) (k : List Key) : (valV kvs k).isSome = memK k (kvs.map (·.1)) := by
  unfold valV memK
  rw [Option.isSome_map, List.any_map]
  induction kvs with
  | nil => rfl
  | cons p r ih =>
    rw [List.find?_cons, List.any_cons]
    show (match decide (p.1 = k) with | true => some p | false => r.find? fun kv => decide (kv.1 = k)).isSome = (decide (p.1 = k) || r.any _)
    cases decide (p.1 = k) with
    | true => rfl
    | false => rw [Bool.false_or]; exact ih
theorem put_new (kvs : List (List Key × V)) (k : List Key) (v : V) (h : memK k (kvs.map (·.1)) = false) : putK kvs k v = kvs ++ [(k, v)] := by
  unfold putK
  have e : (kvs.any fun kv => decide (kv.1 = k)) = false := by
    unfold memK at h
    rw [List.any_map] at h
    exact h
  rw [if_neg (by rw [e]; decide)]
/-! ### for i, x in enumerate(list), the list left as it is -/
theorem for_enum {K : PySem.W.Frag} {a : Addr} {xs : List V} {g : TG} {tb : TS} {D : Ends} {σ : L2.St} {H : Hp} (Pv : Nat → L2.St → Hp → Prop) (h0 : Pv 0 σ H) (hl : ∀ i σ H, i ≤ xs.length → Pv i σ H → H a = some (.lst xs))
    (hs : ∀ (i : Nat) (x : V) (T : Addr) (σ : L2.St) (H : Hp), xs[i]? = some x → Pv i σ H → H T = none → g (.ref T) σ (upd H T (.tup [.int (i : Nat), x])) fun σ2 H2 => tb { D with nx := Pv (i + 1), ct := Pv (i + 1), bk := D.nx } σ2 H2) (hd : ∀ σ H, Pv xs.length σ H → D.nx σ H) :
    ∃ W : Nat → Nat → L2.St → Hp → Prop, (∃ m, W 0 m σ H) ∧ ∀ i m σ H, W i m σ H →
      ((Ite K a).stop i H ∧ D.nx σ H) ∨ ((Ite K a).go i H ∧ ∃ N : L2.St → Hp → Prop, (∀ σ' H', N σ' H' → ∃ m', m' < m ∧ W (i + 1) m' σ' H') ∧ ∀ x H', (Ite K a).yld i H x H' → g x σ H' fun σ2 H2 => tb { D with nx := N, ct := N, bk := D.nx } σ2 H2) := by
  refine ⟨fun i m σ H => i + m = xs.length ∧ Pv i σ H, ⟨xs.length, by omega, h0⟩, ?_⟩
  rintro i m σ H ⟨em, p⟩
  have q : SqL K H a xs := SqL.of (hl i σ H (by omega) p)
  by_cases hlt : i < xs.length
  · refine .inr ⟨⟨xs, xs[i], q, List.getElem?_eq_getElem hlt⟩, Pv (i + 1), fun σ' H' p' => ⟨m - 1, by omega, by omega, p'⟩, fun x H' y => ?_⟩
    obtain ⟨T, y0, rfl, nT, rfl, f⟩ := y
    exact hs i y0 T σ H (f xs q) p nT
  · have e : i = xs.length := by omega
    subst e
    exact .inl ⟨⟨xs, q, Nat.le_refl _⟩, hd σ H p⟩
theorem not_mem_new {M : List Addr} {H : Hp} {p : Addr} (h : ∀ b ∈ M, H b ≠ none) (n : H p = none) : p ∉ M := fun z => h p z n
theorem yes_if {σ : L2.St} {H : Hp} {f : Bool → Hp → Prop} (h : f true H) : tYes σ H f := h
/-! ### ways that are never gone -/
def eNo : TE := fun _ _ _ => False
def cNo : TT := fun _ _ _ => False
theorem pe_never {X : Cx} {e : Expr} : PE X e eNo := ⟨fun _ _ _ _ _ _ h => h.elim⟩
theorem pt_never {X : Cx} {e : Expr} : PT X e cNo := ⟨fun _ _ _ _ _ _ h => h.elim⟩
/-- a comprehension over an empty dict that is locked -/
theorem lc_keys0 {d D : Addr} {o : Obj} {g : TG} {tt : TT} {te : TE} {vs : List Nat} {σ : L2.St} {H1 : Hp} {Qd : Hp → Prop} (hd0 : H1 d = some (.frz o (.dK []))) (hD : H1 D = none) (hd : Qd (upd H1 D (.lst []))) :
    ∃ W : Nat → Nat → Hp → Prop, (∃ m, W 0 m (upd H1 D (.lst []))) ∧ ∀ i m H, W i m H →
      ((Itk d o []).stop i H ∧ Qd H) ∨ ((Itk d o []).go i H ∧ ∃ Nx : Hp → Prop, (∀ H', Nx H' → ∃ m', m' < m ∧ W (i + 1) m' H') ∧ ∀ x H', (Itk d o []).yld i H x H' → g x (wipe σ vs) H' fun σ2 H2 => wipe σ2 vs = wipe σ vs ∧ tt σ2 H2 fun b H3 =>
        if b = true then te σ2 H3 fun y H4 => ∃ acc, H4 D = some (.lst acc) ∧ acc.length < sizeLine ∧ Nx (upd H4 D (.lst (acc ++ [y]))) else Nx H3) := by
  refine ⟨fun i m H => H = upd H1 D (.lst []), ⟨0, rfl⟩, ?_⟩
  rintro i m H rfl
  exact .inl ⟨⟨by rw [upd_ne (ne_of_none hd0 hD)]; exact hd0, Nat.zero_le _⟩, hd⟩
/-- a loop over an empty dict that is locked -/
theorem for_keys0 {d : Addr} {o : Obj} {g : TG} {tb : TS} {D : Ends} {σ : L2.St} {H1 : Hp} (hd0 : H1 d = some (.frz o (.dK []))) (hd : D.nx σ H1) :
    ∃ W : Nat → Nat → L2.St → Hp → Prop, (∃ m, W 0 m σ H1) ∧ ∀ i m σ H, W i m σ H →
      ((Itk d o []).stop i H ∧ D.nx σ H) ∨ ((Itk d o []).go i H ∧ ∃ N : L2.St → Hp → Prop, (∀ σ' H', N σ' H' → ∃ m', m' < m ∧ W (i + 1) m' σ' H') ∧ ∀ x H', (Itk d o []).yld i H x H' → g x σ H' fun σ2 H2 => tb { D with nx := N, ct := N, bk := D.nx } σ2 H2) := by
  refine ⟨fun i m σ' H => σ' = σ ∧ H = H1, ⟨0, rfl, rfl⟩, ?_⟩
  rintro i m σ' H ⟨rfl, rfl⟩
  exact .inl ⟨⟨hd0, Nat.zero_le _⟩, hd⟩
theorem IsDs.last {M : List Addr} {H : Hp} : ∀ {ds : List PyData} {d : PyData} {vs : List V}, IsDs M H (ds ++ [d]) vs → ∃ ws v, vs = ws ++ [v] ∧ IsDs M H ds ws ∧ Is M H d v
  | [], d, vs, x => by
    have x' : IsDs M H [d] vs := x
    unfold IsDs at x'
    obtain ⟨v, r, rfl, h1, h2⟩ := x'
    unfold IsDs at h2
    subst h2
    exact ⟨[], v, rfl, .nil, h1⟩
  | c :: ds, d, vs, x => by
    have x' : IsDs M H (c :: (ds ++ [d])) vs := x
    unfold IsDs at x'
    obtain ⟨v, r, rfl, h1, h2⟩ := x'
    obtain ⟨ws, u, rfl, h3, h4⟩ := h2.last
    exact ⟨v :: ws, u, rfl, .cons h1 h3, h4⟩
theorem Is.pair {M : List Addr} {H : Hp} {d e : PyData} {v : V} (x : Is M H (.tuple [d, e]) v) : ∃ t v1 v2, v = .ref t ∧ t ∉ M ∧ H t = some (.tup [v1, v2]) ∧ Is M H d v1 ∧ Is M H e v2 := by
  obtain ⟨t, vs, rfl, nt, ht, hs⟩ := x.tupE
  unfold IsDs at hs
  obtain ⟨v1, r, rfl, h1, h2⟩ := hs
  unfold IsDs at h2
  obtain ⟨v2, r2, rfl, h3, h4⟩ := h2
  unfold IsDs at h4
  subst h4
  exact ⟨t, v1, v2, rfl, nt, ht, h1, h3⟩
theorem IsDs.of_get {M : List Addr} {H : Hp} : ∀ {ds : List PyData} {vs : List V}, vs.length = ds.length → (∀ (i : Nat) d v, ds[i]? = some d → vs[i]? = some v → Is M H d v) → IsDs M H ds vs
  | [], vs, hl, h => by
    have : vs = [] := List.length_eq_zero_iff.mp hl
    subst this
    exact .nil
  | d :: ds, [], hl, h => by simp at hl
  | d :: ds, v :: vs, hl, h => .cons (h 0 d v rfl rfl) (IsDs.of_get (by simpa using hl) fun i d' v' h1 h2 => h (i + 1) d' v' (by simpa using h1) (by simpa using h2))
end LL

set_option Elab.async false
set_option linter.all false
set_option maxRecDepth 100000
set_option maxHeartbeats 4000000
/-! LBook: a book of rows (a list, and the dict of its nodes), a stream beside it; written data -/
namespace LL
open PySem PySem.Spec PyProof.Rows L2
def keyDt : Key → PyData
  | .inl i => .int i
  | .inr x => .str x
theorem ks_data {M : List Addr} {H : Hp} : ∀ ks : List Key, IsDs M H (ks.map keyDt) (ks.map kV)
  | [] => .nil
  | .inl i :: ks => .cons .int (ks_data ks)
  | .inr x :: ks => .cons .str (ks_data ks)
theorem nd_data {M : List Addr} {H : Hp} {a : Addr} {ks : List Key} (h : H a = some (.tup (ks.map kV))) (hn : a ∉ M) : Is M H (.tuple (ks.map keyDt)) (.ref a) := Is.tup h hn (ks_data ks)
theorem sz_key (k : Key) : sz (keyDt k) = 1 := by cases k <;> (unfold keyDt sz; rfl)
theorem dep_key (k : Key) : dep (keyDt k) = 0 := by cases k <;> (unfold keyDt dep; rfl)
theorem sz_tup (ds : List PyData) : sz (.tuple ds) = 1 + szL ds := by rw [sz]
theorem dep_tup (ds : List PyData) : dep (.tuple ds) = 1 + depL ds := by rw [dep]
theorem sz_lst (ds : List PyData) : sz (.list ds) = 1 + szL ds := by rw [sz]
theorem dep_lst (ds : List PyData) : dep (.list ds) = 1 + depL ds := by rw [dep]
theorem depL_cons (d : PyData) (ds : List PyData) : depL (d :: ds) = max (dep d) (depL ds) := by rw [depL]
theorem depL_nil : depL [] = 0 := by rw [depL]
theorem ks_sz : ∀ ks : List Key, szL (ks.map keyDt) = ks.length
  | [] => szL_nil
  | k :: ks => by rw [List.map_cons, szL_cons, ks_sz ks, List.length_cons, sz_key]; omega
theorem ks_dep : ∀ ks : List Key, depL (ks.map keyDt) = 0
  | [] => depL_nil
  | k :: ks => by rw [List.map_cons, depL_cons, ks_dep ks, dep_key]; rfl
/-- a datum as small as a node -/
def Small (d : PyData) : Prop := sz d ≤ 4 ∧ dep d ≤ 1 ∧ ∃ ks : List Key, d = .tuple (ks.map keyDt)
theorem nd_small {ks : List Key} (h : ks.length ≤ 3) : Small (.tuple (ks.map keyDt)) := by
  refine ⟨?_, ?_, ks, rfl⟩
  · rw [sz_tup, ks_sz]; omega
  · rw [dep_tup, ks_dep]; exact Nat.le_refl _
structure BookAt (M : List Addr) (H : Hp) (b0 b1 : Addr) (n : Nat) : Prop where
  rows : ∃ (rs : List V) (ds : List PyData) (kvs : List (List Key × V)), H b0 = some (.lst rs) ∧ rs.length = n ∧ IsDs M H ds rs ∧ (∀ d ∈ ds, Small d) ∧ H b1 = some (.dT kvs) ∧ kvs.length ≤ n ∧ ∀ p ∈ kvs, ∃ i : Nat, p.2 = .int i ∧ i < n
structure Bk (M : List Addr) (H : Hp) (s bk b0 b1 : Addr) (n : Nat) : Prop where
  str : StrAt M H s
  hbk : H bk = some (.lst [.ref b0, .ref b1])
  ms : s ∈ M
  m0 : b0 ∈ M
  m1 : b1 ∈ M
  kM : bk ∉ M
  ns0 : s ≠ b0
  ns1 : s ≠ b1
  n01 : b0 ≠ b1
  al : ∀ b ∈ M, H b ≠ none
  book : BookAt M H b0 b1 n
section
variable {M N : List Addr} {H H' : Hp} {s bk b0 b1 p : Addr} {n : Nat}
theorem alloc_adv (h : ∀ b ∈ M, H b ≠ none) (a : Adv N H H') (hN : ∀ b ∈ N, H' b ≠ none) : ∀ b ∈ M, H' b ≠ none := fun b hb => by
  by_cases e : b ∈ N
  · exact hN b e
  · cases q : H b with
    | none => exact absurd q (h b hb)
    | some o => rw [a b o e q]; simp
theorem Bk.adv (x : Bk M H s bk b0 b1 n) (a : Adv N H H') (h0 : b0 ∉ N) (h1 : b1 ∉ N) (hn : ∀ b ∈ N, b ∈ M) (hs : StrAt M H' s) (hal : ∀ b ∈ N, H' b ≠ none) : Bk M H' s bk b0 b1 n := by
  obtain ⟨x1, x2, x3, x4, x5, x6, x7, x8, x9, xa, rs, ds, kvs, r1, r2, r3, r4, r5, r6, r7⟩ := x
  exact ⟨hs, a _ _ (fun z => x6 (hn _ z)) x2, x3, x4, x5, x6, x7, x8, x9, alloc_adv xa a hal, ⟨rs, ds, kvs, a _ _ h0 r1, r2, r3.adv (a.more hn), r4, a _ _ h1 r5, r6, r7⟩⟩
theorem Bk.same (x : Bk M H s bk b0 b1 n) (a : Adv [] H H') : Bk M H' s bk b0 b1 n := x.adv a (by simp) (by simp) (by simp) (x.str.same a) (by simp)
theorem Bk.next (x : Bk M H s bk b0 b1 n) (a : Adv [s] H H') (hs : StrAt M H' s) : Bk M H' s bk b0 b1 n := x.adv a (by simpa using x.ns0.symm) (by simpa using x.ns1.symm) (by simpa using x.ms) hs (by simpa using hs.here)
theorem Bk.fresh (x : Bk M H s bk b0 b1 n) (h : H p = none) {o : HO} : Bk (p :: M) (upd H p o) s bk b0 b1 n := by
  have y := x.same (Adv.new (o := o) h)
  obtain ⟨_, _, _, _, _, _, _, _, _, _, rs, ds, kvs, r1, r2, r3, r4, r5, r6, r7⟩ := id x
  obtain ⟨x1, x2, x3, x4, x5, x6, x7, x8, x9, xa, _⟩ := y
  obtain ⟨z1, z2, z3, z4, z5, z6, z7, z8, z9, za, _⟩ := id x
  have a : Adv [] H (upd H p o) := Adv.new h
  exact ⟨(z1.fresh h).same a, x2, by simp [x3], by simp [x4], by simp [x5], fun z => (List.mem_cons.mp z).elim (ne_of_none z2 h) x6, x7, x8, x9,
    fun b hb => by
      rcases List.mem_cons.mp hb with e | hb
      · rw [e, upd_same]; simp
      · exact xa b hb, ⟨rs, ds, kvs, a.same _ _ r1, r2, (r3.fresh h).adv (a.more (by simp)), r4, a.same _ _ r5, r6, r7⟩⟩
theorem Bk.less (x : Bk (p :: M) H s bk b0 b1 n) (h1 : s ∈ M) (h2 : b0 ∈ M) (h3 : b1 ∈ M) : Bk M H s bk b0 b1 n := by
  obtain ⟨x1, x2, x3, x4, x5, x6, x7, x8, x9, xa, rs, ds, kvs, r1, r2, r3, r4, r5, r6, r7⟩ := x
  have m : ∀ b ∈ M, b ∈ p :: M := fun b hb => List.mem_cons_of_mem _ hb
  exact ⟨x1.less m, x2, h1, h2, h3, fun z => x6 (m _ z), x7, x8, x9, fun b hb => xa b (m b hb), ⟨rs, ds, kvs, r1, r2, r3.less m, r4, r5, r6, r7⟩⟩
theorem Bk.cong {m : Nat} (x : Bk M H s bk b0 b1 n) (e : n = m) : Bk M H s bk b0 b1 m := e ▸ x
end
theorem Bk.alloc {M : List Addr} {H : Hp} {s bk b0 b1 p : Addr} {n : Nat} (x : Bk M H s bk b0 b1 n) (h : H p = none) : p ≠ s ∧ p ≠ bk ∧ p ≠ b0 ∧ p ≠ b1 := by
  obtain ⟨x1, x2, x3, x4, x5, x6, x7, x8, x9, xa, rs, ds, kvs, r1, r2, r3, r4, r5, r6, r7⟩ := x
  refine ⟨fun z => x1.here (by rw [← z]; exact h), fun z => ?_, fun z => ?_, fun z => ?_⟩
  · rw [← z, h] at x2; cases x2
  · rw [← z, h] at r1; cases r1
  · rw [← z, h] at r5; cases r5
theorem Bk.put {M : List Addr} {H : Hp} {s bk b0 b1 D : Addr} {n : Nat} {o : HO} (x : Bk (D :: M) H s bk b0 b1 n) (h1 : D ≠ s) (h2 : D ≠ b0) (h3 : D ≠ b1) : Bk (D :: M) (upd H D o) s bk b0 b1 n :=
  x.adv (N := [D]) (Adv.set (by simp)) (by simpa using h2.symm) (by simpa using h3.symm) (by simp) (x.str.adv (N := [D]) (Adv.set (by simp)) (by simpa using h1.symm) (by simp)) (fun b hb => by rw [List.mem_singleton.mp hb, upd_same]; simp)
theorem Adv.one {s b0 b1 : Addr} {H H' : Hp} (a : Adv [s] H H') : Adv [s, b0, b1] H H' := a.more (by simp)
theorem Adv.two {s b0 b1 : Addr} {H H' : Hp} (a : Adv [b0, b1] H H') : Adv [s, b0, b1] H H' := a.more (by simp)
theorem Adv.nil {N : List Addr} {H H' : Hp} (a : Adv [] H H') : Adv N H H' := a.more (by simp)
theorem kV_str (x : Str) : kV (.inr x) = .str x := rfl
theorem kV_int (x : Int) : kV (.inl x) = .int x := rfl
/-! ### written data: what a display gives -/
def DE (te : TE) (σ : L2.St) (d : PyData) : Prop := ∀ (M : List Addr) (H : Hp) (Q : VK), (∀ b ∈ M, H b ≠ none) → (∀ v H', Is M H' d v → Adv [] H H' → Q v H') → te σ H Q
def DA (ta : TA) (σ : L2.St) (ds : List PyData) : Prop := ∀ (M : List Addr) (H : Hp) (Q : List V → Hp → Prop), (∀ b ∈ M, H b ≠ none) → (∀ vs H', IsDs M H' ds vs → Adv [] H H' → Q vs H') → ta σ H Q
theorem Adv.alloc {M : List Addr} {H H' : Hp} (a : Adv [] H H') (h : ∀ b ∈ M, H b ≠ none) : ∀ b ∈ M, H' b ≠ none := fun b hb => by
  cases e : H b with
  | none => exact absurd e (h b hb)
  | some o => rw [a.same _ _ e]; simp
section
variable {σ : L2.St} {te : TE} {ta : TA} {d : PyData} {ds : List PyData}
theorem de_int {i : Int} : DE (tC (.int i)) σ (.int i) := fun M H Q _ k => k _ _ .int (Adv.refl _ _)
theorem de_str {x : Str} : DE (tC (.str x)) σ (.str x) := fun M H Q _ k => k _ _ .str (Adv.refl _ _)
theorem de_bl {b : Bool} : DE (tC (.bl b)) σ (.bool b) := fun M H Q _ k => k _ _ .bl (Adv.refl _ _)
theorem de_non : DE (tC .non) σ .none := fun M H Q _ k => k _ _ .non (Adv.refl _ _)
theorem de_neg {i : Int} : DE (tUn (rU fun i => .int (-i)) (tC (.int i))) σ (.int (-i)) := fun M H Q _ k => ⟨i, rfl, k _ _ .int (Adv.refl _ _)⟩
theorem de_var {j : Nat} {i : Int} (h : σ[j]? = some (some (.int i))) : DE (tVar j) σ (.int i) := fun M H Q _ k => ⟨_, h, k _ _ .int (Adv.refl _ _)⟩
theorem de_varop {j : Nat} {i c : Int} {f : Int → Int → Int} (h : σ[j]? = some (some (.int i))) : DE (tOp (rI0 fun i j => .int (f i j)) (tVar j) (tC (.int c))) σ (.int (f i c)) := fun M H Q _ k => ⟨_, h, i, c, rfl, rfl, k _ _ .int (Adv.refl _ _)⟩
theorem de_pow {i c : Int} (h : CPow i c) : DE (tOp (rI CPow fun i j => .int (i ^ j.toNat)) (tC (.int i)) (tC (.int c))) σ (.int (i ^ c.toNat)) := fun M H Q _ k => ⟨i, c, rfl, rfl, h, k _ _ .int (Adv.refl _ _)⟩
theorem de_tup (h : DA ta σ ds) (hl : ds.length ≤ 1000) : DE (tTup ta) σ (.tuple ds) := fun M H Q hM k => h M H _ hM fun vs H' x a =>
  ⟨by rw [x.len, sizeLine_eq]; omega, fun p np => k _ _ (Is.tup upd_same (not_mem_new (a.alloc hM) np) (x.adv (Adv.nil (Adv.new np)))) (a.newT np)⟩
theorem de_lst (h : DA ta σ ds) (hl : ds.length ≤ 1000) : DE (tLst ta) σ (.list ds) := fun M H Q hM k => h M H _ hM fun vs H' x a =>
  ⟨by rw [x.len, sizeLine_eq]; omega, fun p np => k _ _ (Is.lst upd_same (not_mem_new (a.alloc hM) np) (x.adv (Adv.nil (Adv.new np)))) (a.newT np)⟩
theorem de_dic : DE tDNewK σ (.dict []) := fun M H Q hM k => fun p np => k _ _ (Is.dic upd_same (not_mem_new hM np)) (Adv.new np)
theorem da_nil : DA tNil σ [] := fun M H Q _ k => k _ _ .nil (Adv.refl _ _)
theorem da_cons (h1 : DE te σ d) (h2 : DA ta σ ds) : DA (tCons te ta) σ (d :: ds) := fun M H Q hM k => h1 M H _ hM fun v H1 x1 a1 => h2 M H1 _ (a1.alloc hM) fun vs H2 x2 a2 => k _ _ (.cons (x1.adv (Adv.nil a2)) x2) (a1.trans a2)
end
end LL

set_option Elab.async false
set_option linter.all false
set_option maxRecDepth 100000
set_option maxHeartbeats 4000000
namespace LL
open PySem PySem.Spec PyProof.Rows L2
theorem IsDs.append_self {M : List Addr} {H : Hp} {ds : List PyData} {vs : List V} (h : IsDs M H ds vs) : ∀ n : Nat, IsDs M H (List.replicate n ds).flatten (List.replicate n vs).flatten
  | 0 => .nil
  | n + 1 => by
    rw [List.replicate_succ, List.replicate_succ, List.flatten_cons, List.flatten_cons]
    exact h.app (h.append_self n)
theorem de_rep {K : PySem.W.Frag} {σ : L2.St} {ta : TA} {ds : List PyData} {k : Int} (h : DA ta σ ds) (hl : ds ≠ [] ∧ ds.length ≤ 100) (hk : 2 ≤ k ∧ k ≤ 1000) : DE (tOp (rRepT K) (tTup ta) (tC (.int k))) σ (.tuple (List.replicate k.toNat ds).flatten) := fun M H Q hM kk => h M H _ hM fun vs H' x a =>
  ⟨by rw [x.len, sizeLine_eq]; omega, fun p np => ⟨p, k, vs, rfl, rfl, SqT.of upd_same, fun z => hl.1 (by have := x.len; rw [z] at this; exact List.length_eq_zero_iff.mp this.symm), hk.1, hk.2, by rw [x.len]; omega, fun q nq => by
    have a2 : Adv [] H (upd H' p (.tup vs)) := a.newT np
    exact kk _ _ (Is.tup upd_same (not_mem_new (a2.alloc hM) nq) ((x.append_self k.toNat).adv (Adv.nil ((Adv.new np).trans (Adv.new nq))))) (a2.newT nq)⟩⟩
theorem sz1_int (i : Int) : sz (.int i) = 1 := by unfold sz; rfl
theorem sz1_str (i : Str) : sz (.str i) = 1 := by unfold sz; rfl
theorem sz1_bool (i : Bool) : sz (.bool i) = 1 := by unfold sz; rfl
theorem sz1_none : sz .none = 1 := by unfold sz; rfl
theorem sz1_dict (l : List (PyData × PyData)) : sz (.dict l) = 1 := by unfold sz; rfl
theorem dep1_int (i : Int) : dep (.int i) = 0 := by unfold dep; rfl
theorem dep1_str (i : Str) : dep (.str i) = 0 := by unfold dep; rfl
theorem dep1_bool (i : Bool) : dep (.bool i) = 0 := by unfold dep; rfl
theorem dep1_none : dep .none = 0 := by unfold dep; rfl
theorem dep1_dict (l : List (PyData × PyData)) : dep (.dict l) = 0 := by unfold dep; rfl
end LL

set_option Elab.async false
set_option linter.all false
set_option maxRecDepth 100000
set_option maxHeartbeats 2000000
/-! LExc: raising with the context kept, clauses with a name, what is asked of a held error -/
namespace LL
open PySem PySem.Spec PyProof.Rows L2
/-! ### defs -/
section
variable {P : Program} {w : World} {K : PySem.W.Frag} {mg : Str → Option Value} {base : Heap}
theorem okXN {x qual : Str} {st : Stmt} {f : Addr} {fd : FuncData} {N ps : List Str} {k : Nat} {sp : Sp} (F : Fun K x qual st f fd) (S : FnScope N ps (defScope st))
    (len : ∀ vs H Q E, sp vs H Q E → vs.length = ps.length)
    (hb : ∀ (cdv : Value) (A : Around) (outer : List Env) (s : Shared) (H : Hp) (vs : List V) (Q : VK) (E : XK), Room k (A.deeper (envOfC qual (defScope st) s.heap.objs.size f cdv)) → sp vs H Q E →
      ∃ t, PSs (cxOf (L2N.CX P w) P w K mg base N qual (defScope st) f cdv A outer s H E) (defBody st) t ∧ t { nx := fun _ H' => Q .non H', rt := Q } (L2.start N vs) H) :
    FnOk P w K mg base (L2N.CX P w) (k + 1) f fd ps sp := by
  obtain ⟨o1, o2, kV, doc, pm, an, cdv, ct, osl, e, lk, hcd⟩ := F.ex
  subst e
  exact fn_of lk hcd S len fun A outer s H vs Q E hr hs => hb cdv A outer s H vs Q E hr hs
theorem okH {x qual : Str} {st : Stmt} {f : Addr} {fd : FuncData} {N ps : List Str} {k : Nat} {sp : Sp} (F : Fun K x qual st f fd) (S : FnScope N ps (defScope st))
    (len : ∀ vs H Q E, sp vs H Q E → vs.length = ps.length)
    (hb : ∀ (cdv : Value) (A : Around) (outer : List Env) (s : Shared) (H : Hp) (vs : List V) (Q : VK) (E : XK) (p : Addr × Obj), L2H.Hot1 A p → L2H.RoomH k (A.deeper (envOfC qual (defScope st) s.heap.objs.size f cdv)) → sp vs H Q E →
      ∃ t, PSs (L2H.cxH CX0 P w K mg base N qual (defScope st) f cdv A outer s H E p) (defBody st) t ∧ t { nx := fun _ H' => Q .non H', rt := Q } (L2.start N vs) H) :
    L2H.FnH P w K mg base CX0 (k + 1) f fd ps sp := by
  obtain ⟨o1, o2, kV, doc, pm, an, cdv, ct, osl, e, lk, hcd⟩ := F.ex
  subst e
  exact L2H.fn_ofH lk hcd S len fun A outer s H vs Q E p h1 h2 h3 => hb cdv A outer s H vs Q E p h1 h2 h3
end
/-! ### making an error -/
section
variable {X : Cx} {x : Str} {e : Expr} {es : List Expr} {ta : TA} {p pos : Pos}
theorem pmk_noargN {C : Addr} {bmB : List Value} {B newId initId : String} (F : ExcBaseFacts B newId initId bmB) (q : PySem.W.excIn X.K C bmB newId = true) (gC : X.mg x = some (.ref C)) (kC : PySem.W.keepIn X.K (.ref C) = true) (r : Raises X (.ref C)) (hg : Gl X x)
    (hdb : (x == ("__debug__" : Str)) = false := by decide) : L2N.PMk X (.Call (.Name x p) [] [] pos) (fun _ H Q => Q (.ref C) none H) := by
  intro pins s σ H Q I h
  refine wpAny_Call_Name_kw (ld_glob I hg gC ?_ hdb)
  refine PySem.W.callWith_K0 I.kIn kC ?_
  obtain ⟨bm, N, nm, qn, bs, hdct, sn, sub, ab, col, dd, k0, k1, k2, k3, k5, mN, hC, hN, hni, T⟩ := exc_obj I.kIn q
  exact wpAny_call_exc_subT F T hC hN hni (fun h' e hm => L2N.mk_of I hm r h (I.hok.gone hm.new)) (Nat.zero_le _)
theorem pmk_initN {CX : CXT} {C fI : Addr} {k : Nat} {fd : FuncData} {ps : List Str} {sp : Sp} {ds : List Value} {dvs : List V} (T : OexC X.K C) (iC : PySem.W.findIn X.K (.ref C) "__init__" = some (some (.ref fI)))
    (tI : PySem.W.typeIn X.K (.ref fI) = some (.type "function")) (F1 : FnOk X.prog X.w X.K X.mg X.base CX k fI fd ps sp) (hr : Room (k + 1) X.A) (hb : Binds X.K fd ps ds) (hd : Vals dvs ds) (hx : Passes CX X (fun _ _ _ => False)) (hg : Gl X x) (hm : X.mg x = some (.ref C))
    (ha : PA X (e :: es) ta) (hdb : (x == ("__debug__" : Str)) = false := by decide) (he : starEach (e :: es) X.env = (false, eval e X.env) :: starEach es X.env := by rfl) (hpl : (backTo pos (starEach es X.env)).any (·.1) = false := by rfl) :
    L2N.PMk X (.Call (.Name x p) (e :: es) [] pos) (tMkO C sp dvs ta) := by
  intro pins s σ H Q I h
  obtain ⟨nm, q, N, bs, bm, sn, sub, ab, col, dd, k0, k1, k2, k3, k5, hC, hbm⟩ := T.cls
  refine wpAny_Call_Name_kw (ld_glob I hg hm ?_ hdb)
  refine PySem.W.callWith_K (h₀ := X.base) I.ok.mod.kin T.kC (thn (ha.run pos pins s σ H _ I h) fun us s1 ⟨vs, H1, I1, r1, hz, q1⟩ => ⟨I1.kIn, ?_⟩) he hpl
  show wpAny _ _ (call (.ref C) us) _ _ _
  obtain ⟨hp, g, dr, tk, os⟩ := s1
  have ln : hp.objs.size ≤ hp.objs.size + 1 := Nat.le_succ _
  have fr : H1 (hp.objs.size + 1) = none := I1.hok.fresh ln
  have spq := q1 (hp.objs.size + 1) fr
  have old : ∀ b o, hp.get? b = some o → ((hp.push (PySem.W.kdv_tup us)).push (PySem.HandSPX.excO C hp.objs.size)).get? b = some o := fun b o e => Heap.get?_push_of_some _ (Heap.get?_push_of_some _ e)
  have its : ((hp.push (PySem.W.kdv_tup us)).push (PySem.HandSPX.excO C hp.objs.size)).get? (hp.objs.size + 1) = some (PySem.HandSPX.excO C hp.objs.size) := by heap_get
  have I2 : Inv X pins σ (upd H1 (hp.objs.size + 1) (exo (hp.objs.size + 1) C none)) ⟨(hp.push (PySem.W.kdv_tup us)).push (PySem.HandSPX.excO C hp.objs.size), g, dr, tk, os⟩ :=
    I1.laid (t' := tk) (a := hp.objs.size + 1) (o := exo (hp.objs.size + 1) C none) (h' := (hp.push (PySem.W.kdv_tup us)).push (PySem.HandSPX.excO C hp.objs.size)) old ln (exo_ok its)
  have vr : Vals (V.ref (hp.objs.size + 1) :: (vs ++ dvs)) (Value.ref (hp.objs.size + 1) :: (us ++ ds)) := .cons rfl (r1.append hd)
  have hl : (Value.ref (hp.objs.size + 1) :: us ++ ds).length = ps.length := by
    have e := vr.length
    rw [F1.len _ _ _ _ spq] at e
    exact e.symm
  have su : us.length ≤ sizeLine := by
    have := Paired.length r1
    rw [sizeLine_eq]; omega
  refine wpAny_call (PySem.HandSPX.call_own F.excBase_ValueError (fun Y => PySem.HandSPX.refsVE_contains Y bm hbm) (I1.kIn _ _ hC) (PySem.W.looks_findIn I1.kIn iC) (fun self => PySem.W.bind_fn I1.kIn self tI) su
    (codeAny_mono (F1.run _ X.stack _ _ ⟨Value.ref (hp.objs.size + 1) :: us, []⟩ (Value.ref (hp.objs.size + 1) :: (us ++ ds)) _ _ (fun _ _ _ => False) (hr.make C us []) (I2.env0.make C us []) (hb _ (Value.ref (hp.objs.size + 1) :: us) I2.kIn hl) vr spq) fun r s' hq => ?_))
  cases r with
  | error er => exact hx pins σ _ _ er s' I2 hq
  | ok fl =>
    cases fl with
    | next => exact False.elim hq
    | brk => exact False.elim hq
    | cont => exact False.elim hq
    | ret u =>
      obtain ⟨v, H2, o2, b2, u2, k2', rv, ev, d, fs, ea, ed, hd1, q2⟩ := hq
      subst ev
      obtain ⟨h2, g2, d2, t2, os'⟩ := s'
      obtain ⟨t0, G, J, kG, ge, hoe, na⟩ := mk_end0 (d2 := d2) (t2 := t2) I1 ln old u2 k2' o2 b2 ea ed hd1
      exact ⟨rv, hp.objs.size + 1, _, _, ⟨G, g2, d2, t2, os'⟩, _, .ref C, some d, rfl, J, kG, ge, hoe, ⟨rfl, rfl, fun vs e => by cases e; rfl⟩, rfl, rfl, na, rfl, b2, raises_own T.exC T.tyC, q2⟩
end
/-! ### list.count, flat items -/
def rCntF (K : PySem.W.Frag) : V → List V → Hp → VK → Prop := fun x xs H Q => ∃ (a : Addr) (ys : List V) (y : V), x = V.ref a ∧ xs = [y] ∧ SqL K H a ys ∧ flatV y = true ∧ ys.all flatV = true ∧ Q (.int ((ys.countP fun z => eqV z y) : Nat)) H
theorem count_eqU {y : V} : ∀ {ys : List V} {its : List Value}, Vals ys its → ys.all flatV = true → its.countP (eqU y) = ys.countP fun z => eqV z y
  | [], _, .nil, _ => rfl
  | z :: ys, u :: its, .cons r rs, h => by
    rw [List.all_cons, Bool.and_eq_true] at h
    rw [List.countP_cons, List.countP_cons, count_eqU rs h.2, eqU_of r h.1]
theorem mt_countF {X : Cx} : MtR X "list.count" (rCntF X.K) := by
  intro pins s σ H x xs v us Q I rx rxs h
  obtain ⟨a, ys, y, rfl, rfl, hs, fy, fys, q⟩ := h
  cases rx
  obtain ⟨u, rfl, ru⟩ := rxs.one
  obtain ⟨its, rv, ⟨⟨cls, dd, data, sl⟩, n, ho, hc, hdn, hd⟩, hlen⟩ := I.list hs
  simp only at hc hd
  subst hc hd
  refine call_meets PySem.F.slot_list_count ⟨_, ho, rfl⟩ PySem.F.entry_list_count (PySem.F.args_list_count_2 _ _)
    (SeqAt.list_countAt a its.toArray n dd sl u (eqU y)) ⟨ho, fun z hz => mem_eqAt ru fy rv fys z (by simpa using hz), ?_⟩
  refine ⟨.int ((ys.countP fun z => eqV z y) : Nat), H, I.tok _, ⟨s.toks, ?_⟩, q⟩
  rw [← count_eqU rv fys]
end LL

set_option Elab.async false
set_option linter.all false
set_option maxRecDepth 100000
set_option maxHeartbeats 2000000
/-! LExd: isinstance of a held error whatever its dict; try with clauses that name the error -/
namespace LL
open PySem PySem.Spec PyProof.Rows L2
section
open PySem.W PySem.Calls
variable {prog : Program} {w : World} {A : Around} {E : Value → Shared → Prop} {s : Shared} {K : Frag} {x D : Addr} {ox : Obj} {od : Option Obj}
theorem held_class {Q : Option Value → Shared → Prop} (C : ExcC K D) (X : K.In s.heap) (I : InstAt s.heap x ox D od) (h : Q (some (.ref D)) { s with toks := s.toks + 1 }) :
    wpAny (model prog w) A (getAttr? (.ref x) "__class__") Q E s := by
  have hf : findObj K D od "__class__" = some (.bind (.builtin "getset_descriptor.__get__") (.builtin "object.__class__")) := by
    obtain ⟨cd, hc, _⟩ := any_some C.hd
    unfold findObj
    rw [hc, Option.bind_some, C.ha, Option.bind_some]
    simp [C.hn, C.ht]
  obtain ⟨hp, g, d, t, os⟩ := s
  have L0 := I.type (M := model prog w)
  have L1 := looks_findIn (M := model prog w) X C.hg
  have L2' := looks_findIn (M := model prog w) X C.hk
  have L3 := looks_find (M := model prog w) X I hf
  have sub : Looks (model prog w) hp (isInstance (.ref x) (.type "BaseException")) true := L0.andThen (looks_subIn X C.hs)
  have y0 : (false && onTheHeap (Value.builtin "BaseException.__getattribute__")) = false := rfl
  have y2 : (Value.builtin "BaseException.__getattribute__" == Value.builtin "object.__getattribute__") = false := by decide +kernel
  have y1 : (onTheHeap (Value.ref D) && Value.builtin "BaseException.__getattribute__" == Value.builtin "object.__getattribute__") = false := by rw [y2]; rfl
  unfold getAttr? getAttrBy? getAttrBy
  refine wpAny_bind (wpAny_mkText (wpAny_bind (wpAny_attempt (wpAny_holding (wpAny_bind (L0.at (wpAny_bind (L1.at ?_))))))))
  show wpAny _ _ (if (onTheHeap (Value.ref D) && Value.builtin "BaseException.__getattribute__" == Value.builtin "object.__getattribute__") = true then _ else _) _ _ _
  rw [y1, if_neg Bool.false_ne_true]
  unfold getAttrByItsOwn hookBefore
  refine wpAny_bind ?_
  rw [if_pos (show onTheHeap (Value.ref D) = true from rfl)]
  refine L2'.at (wpAny_bind (wpAny_attempt (wpAny_holding ?_)))
  unfold callGetattribute
  rw [y0, if_neg Bool.false_ne_true]
  unfold boundAndCalled
  rw [PySem.F.excAttr_ValueError.ga.bind (.ref x)]
  refine wpAny_bind (wpAny_pure ?_)
  show wpAny _ _ (call (.builtin "BaseException.__getattribute__") [.ref x, .str "__class__" t]) _ _ _
  refine wpAny_call (codeAny_call_builtin PySem.F.excAttr_ValueError.ga.plain PySem.F.entry_bexc_ga ?_)
  refine @check_slot (model prog w) _ _ ⟨hp, g, d, t + 1, os⟩ "BaseException.__getattribute__" "BaseException" "__getattribute__" (.ref x) [.str "__class__" t] [] _ (by decide +kernel) (by decide +kernel) sub (PySem.F.args_bexc_ga (.ref x) (.str "__class__" t)) ?_
  unfold Builtin.«object.__getattribute__»
  refine wpAny_bind (wpAny_of_eq (a := ((Value.ref x : Value), [Value.str "__class__" t])) (by first | rfl | (simp only [slotArgs]; rfl)) ?_)
  refine wpAny_bind (wpAny_pure (wpAny_bind (L0.at (wpAny_bind (L3.at ?_)))))
  show wpAny _ _ (holding [Value.builtin "object.__class__"] (call (.builtin "getset_descriptor.__get__") [.builtin "object.__class__", .ref x, .ref D]) >>= ret) _ _ _
  refine wpAny_bind (wpAny_holding (wpAny_call (class_get (s := ⟨hp, g, d, t + 1, os⟩) (ox := ox) (od := od) X I C.hm ?_)))
  refine wpAny_pure ?_
  show wpAny _ _ (handedOut (.ref D)) _ _ _
  rw [handedOut_of (v := .ref D) rfl]
  first
    | exact wpAny_pure (wpAny_pure h)
    | exact wpAny_pure h
    | exact wpAny_pure (wpAny_bind (wpAny_pure (wpAny_pure h)))
theorem held_kit (C : ExcC K D) : KitX K (.ref x) (.ref D) (fun h => InstAt h x ox D od) := by
  refine ⟨fun _ _ _ I => I.type, fun _ _ X _ => ?_, fun h tp dd its n sl X htp => ?_, fun X I k => held_class C X I k⟩
  · obtain ⟨cdD, hcD, _⟩ := any_some C.hd
    unfold clsIn at hcD
    split at hcD
    · rename_i c' d' cd' sl' ho
      intro A' Q' E' s' k q
      unfold isType loadHead
      exact wpAny_bind (wpAny_loadPart (k _ _ (X _ _ ho)) (wpAny_pure q))
    · cases hcD
  · obtain ⟨cdD, hcD, _⟩ := any_some C.hd
    refine Bool.eq_false_iff.mpr fun q => ?_
    obtain rfl : D = tp := Value.ref.inj (beq_iff_eq.mp q)
    unfold clsIn at hcD
    split at hcD
    · rename_i c' d' cd' sl' ho
      cases (X _ _ ho).symm.trans htp
    · cases hcD
end
/-- isinstance(e, c), e a held error at a, of class D, its dict d -/
def rIsP (K : PySem.W.Frag) (D a : Addr) (d : Option Addr) : List V → Hp → VK → Prop := fun xs H Q => ∃ (c : V) (cv : Value) (b : Bool), xs = [.ref a, c] ∧ (∀ u, RelV c u → u = cv) ∧ (∀ dd, d = some dd → ∃ fs, H dd = some (.xd fs)) ∧ PySem.W.kitOne K (.ref D) cv = some b ∧ Q (.bl b) H
theorem call_isP {X : Cx} {a D : Addr} {oe : Obj} {d : Option Addr} (C : ExcC X.K D) (hz : Zc (.ref D) d oe) (hf : ∃ vs, oe.data = .fields vs) (hp : (a, oe) ∈ X.pn) : CallR X (.builtin "isinstance") (rIsP X.K D a d) := by
  intro pins s σ H xs us Q I r h
  obtain ⟨c, cv, b, rfl, hcv, hd, e, q⟩ := h
  cases r with
  | cons rx rr =>
    cases rr with
    | cons rt rr =>
      cases rr
      cases rx
      have ec := hcv _ rt
      subst ec
      obtain ⟨hget, _⟩ := I.pin (a, oe) (List.mem_append.mpr (.inl hp))
      obtain ⟨vs, hv⟩ := hf
      have J : ∃ od, PySem.W.InstAt s.heap a oe D od := by
        obtain ⟨oc, o1, oda, osl⟩ := oe
        obtain ⟨h1, h2⟩ := hz
        dsimp only at h1 h2 hv
        subst h1 h2 hv
        cases o1 with
        | none => exact ⟨none, hget, rfl, rfl, trivial⟩
        | some dd =>
          obtain ⟨fs, ea⟩ := hd dd rfl
          obtain ⟨mA, hns, _⟩ := I.hok dd _ ea
          obtain ⟨od, ho, _⟩ := lookIn_ns hns
          exact ⟨some od, hget, rfl, rfl, ho⟩
      obtain ⟨od, J⟩ := J
      exact PySem.W.kia_one (held_kit C) I.kIn J e (fun z => nomatch z) fun tk => ⟨.bl b, H, I.kept (t' := tk) fun _ _ z => z, rfl, q⟩
/-! ### try with clauses that name the error -/
def wAsMany (K : PySem.W.Frag) (i : Nat) (Wout : WX) (D : Ends) : List (Value × (Addr → Value → Option Addr → TS)) → WX
  | [] => Wout
  | (c, ts) :: l => fun cls d σ H => ∃ b, PySem.W.exmOne K cls c = some b ∧
      (b = true → ∀ a, H a = none → ts a cls d { nx := fun σ' H' => D.nx (σ'.set i none) H', rt := D.rt, bk := fun σ' H' => D.bk (σ'.set i none) H', ct := fun σ' H' => D.ct (σ'.set i none) H' } (σ.set i (some (.ref a))) H) ∧
      (b = false → wAsMany K i Wout D l cls d σ H)
inductive HdsAs (X : Cx) (n : Str) : List ExceptHandler → List (Value × (Addr → Value → Option Addr → TS)) → Prop
  | nil : HdsAs X n [] []
  | cons {x : Str} {c : Value} {ts : Addr → Value → Option Addr → TS} {b₀ : Stmt} {suite : List Stmt} {np pos' : Pos} {hds : List ExceptHandler} {l : List (Value × (Addr → Value → Option Addr → TS))} (hc : Names X x c)
      (hsu : ∀ (a : Addr) (oe : Obj) (cls : Value) (d : Option Addr) (pn : List (Addr × Obj)), L2N.Zn cls d oe → (∃ vs, oe.data = .fields vs) → PSs (X.suite a ((a, oe) :: pn)) (b₀ :: suite) (ts a cls d)) (r : HdsAs X n hds l) :
      HdsAs X n (.ExceptHandler (some (.Name x np)) (some n) (b₀ :: suite) pos' :: hds) ((c, ts) :: l)
section
open L2N
variable {X : Cx} {n : Str} {i : Nat} {body : List Stmt} {h₀ : ExceptHandler} {hds : List ExceptHandler} {l : List (Value × (Addr → Value → Option Addr → TS))} {pos : Pos} {tb : WX → TS} {Wout : WX}
theorem ps_tryAs (hs : X.stack = X.env :: X.outer) (hf : X.env.frame = some X.env.locals) (hN : X.N.Nodup) (hi : X.N[i]? = some n) (hln : X.env.kindOf n = some .local) (tk : L2N.Takes X Wout)
    (hb : ∀ (W : WX) (pn : List (Addr × Obj)) (xe : Value → Shared → Prop), L2N.Takes (X.tr pn xe) W → PassesOwn (model X.prog X.w) X.A X.env xe → PSs (X.tr pn xe) body (tb W))
    (hh : HdsAs X n (h₀ :: hds) l) : PS X (.Try body (h₀ :: hds) [] [] pos) (fun D σ H => tb (wAsMany X.K i Wout D l) D σ H) := by
  refine ⟨fun pins s σ H D I h => ?_⟩
  have ok := I.ok
  have hfr : X.A.frames = some (X.env :: X.outer) := by rw [ok.frames, hs]
  have hloc : Loc X.env.scope n := .inl hln
  refine wpAny_Try_except (wpAny_mono ((hb (wAsMany X.K i Wout D l) (X.pn ++ pins) (fun e s₁ => wpAny (model X.prog X.w) X.A (noteFrame e X.env) (fun _ s₂ => wpAny (model X.prog X.w) X.A (setFlight e none) (fun _ s₃ =>
    wpAny (model X.prog X.w) X.A (handleBy e X.env (h₀ :: hds)) (SP X pins D) X.xe s₃) X.xe s₂) X.xe s₁) (fun u s' xx => ?_) PassesOwn.looking).run [] s σ H D (I.toTry _) h) (fun f s1 hsp => ?_) (fun e s1 he => he))
  · obtain ⟨a, B, sI, pins', σ', H', cls, d, rfl, J', nb, up, sky, na, os, ag, w⟩ := xx
    have J : Inv X pins σ' H' sI := J'.ofTry ok
    show wpAny (model X.prog X.w) X.A (noteFrame (.ref a) X.env) _ _ _
    refine L2N.Sky.land (B := B) (L := X.env.locals) Zn.steady hfr hf (by rw [← hs]; exact sky) fun h3 fl3 up3 => ?_
    have J3 : Inv X pins σ' H' { s' with heap := h3 } := J.landed nb fl3.1 (up.trans up3) os ag
    obtain ⟨oe3, vs3, he3, hz3, hd3⟩ := fl3.there
    have nfr : a ∉ frs (X.env :: X.outer) := fun hm => by
      obtain ⟨_, o', e', hnf⟩ := fl3.2.2.1.mem hm
      rw [he3] at e'; cases e'
      exact hnf _ hd3
    have nL : a ≠ X.env.locals := fun z => nfr (List.mem_filterMap.mpr ⟨X.env, List.mem_cons_self, by rw [hf, z]⟩)
    have nF : a ∉ X.fs := fun hm => by
      obtain ⟨e, he, q⟩ := List.mem_filterMap.mp hm
      exact nfr (List.mem_filterMap.mpr ⟨e, List.mem_cons_of_mem _ he, q⟩)
    have S3 := J3.suite he3 hd3 na nL nF
    have go : ∀ {hds' : List ExceptHandler} {l' : List (Value × (Addr → Value → Option Addr → TS))}, HdsAs X n hds' l' → wAsMany X.K i Wout D l' cls d σ' H' →
        wpAny (model X.prog X.w) X.A (handleBy (.ref a) X.env hds') (SP X pins D) X.xe { s' with heap := h3 } := by
      intro hds' l' hk
      induction hk with
      | nil =>
        intro w
        refine wpAny_handleBy_nil ?_
        obtain ⟨k1, k2, k3, oe, vs, T, oT, ts', he, hz, hd, h1, hr⟩ := id fl3
        unfold PySem.passOn
        refine wpAny_bind (wpAny_field he hd h1 ?_)
        rw [if_neg (show ¬ ((Value.ref T == Value.none) = true) from by simp)]
        have fin : wpAny (model X.prog X.w) X.A (setFlight (.ref a) X.env.frame) (fun _ s4 => wpAny (model X.prog X.w) X.A (throw (.ref a) : Sem Flow) (SP X pins D) X.xe s4) X.xe { s' with heap := h3 } := by
          rw [hf]
          exact HandSPX.setFlight_upZ fl3 fun h4 hh4 up4 => wpAny_throw (tk _ _ ⟨a, B, sI, pins, σ', H', cls, d, rfl, J, nb, (up.trans up3).trans up4, .inr (.inr (by rw [hs]; exact hh4)), na, os, ag, w⟩)
        first
          | exact wpAny_bind (wpAny_pure (wpAny_bind fin))
          | exact wpAny_bind fin
      | @cons x c ts b₀ suite np pos' hds2 l2 hc hsu r ih =>
        intro w
        obtain ⟨b, hb1, hyes, hno⟩ := w
        refine wpAny_handleBy_cons (codeAny_handlers_test ?_) (by intro q; cases q)
        have LT : PySem.W.Looks (model X.prog X.w) h3 (typeOf (.ref a)) cls := fun A Q E s k q => wpAny_typeOf_ref (k _ _ he3) (by rw [hz3.1]; exact q)
        have LM := PySem.W.exm_one (M := model X.prog X.w) (J3.kIn) LT hb1
        have test : ∀ {Q : Value → Shared → Prop} {E : Value → Shared → Prop}, Q c { s' with heap := h3 } → wpAny (model X.prog X.w) (X.A.mark (some (.ref a))) (eval (.Name x np) X.env) Q E { s' with heap := h3 } := fun {Q E} q => by
          obtain ⟨hg, hdbg, hm | ⟨hm, hv, hnn⟩⟩ := hc
          · exact ld_glob (X := X.suite a ((a, oe3) :: (X.pn ++ pins))) S3 hg hm q hdbg
          · exact ld_blt (X := X.suite a ((a, oe3) :: (X.pn ++ pins))) S3 hg hm hv q hnn hdbg
        refine test (LM.here ?_)
        cases b with
        | false =>
          show wpAny _ X.A (handleBy (.ref a) X.env hds2) _ _ _
          exact ih (hno rfl)
        | true =>
          refine codeAny_handlers_suite_as (HandSPX.lands_againZ fl3 fun h4 fl4 up4 => ?_)
          have J4 : Inv X pins σ' H' { s' with heap := h4 } := J.landed nb fl4.1 ((up.trans up3).trans up4) os ag
          obtain ⟨oe4, vs4, he4, hz4, hd4⟩ := fl4.there
          have S4 := J4.suite he4 hd4 na nL nF
          refine store_ok (X := X.suite a ((a, oe4) :: (X.pn ++ pins))) (v := .ref a) S4 hN hi hloc rfl (fun s5 S5 => ?_) (.inr hln)
          refine wpAny_mono ((hsu a oe4 cls d (X.pn ++ pins) hz4 ⟨_, hd4⟩).run [] s5 _ H' _ S5 (hyes rfl a na)) (fun f s6 hsp => ?_) (fun _ _ z => False.elim z)
          have done : ∀ {σ6 : L2.St} {H6 : Hp} {Q : Shared → Prop}, Inv (X.suite a ((a, oe4) :: (X.pn ++ pins))) [] σ6 H6 s6 → (∀ s7, Inv X pins (σ6.set i none) H6 s7 → Q s7) →
              wpAny (model X.prog X.w) X.A (do bindName X.env n .none; unbindBehindTheSuite X.env n pos') (fun _ s7 => Q s7) X.xe s6 := fun {σ6 H6 Q} S6 hq => gone_ok (S6.unsuite ok) hN hi hln hq
          cases f with
          | ret u =>
            obtain ⟨v6, σ6, H6, S6, r6, q6⟩ := hsp
            exact done S6 fun s7 J7 => ⟨_, _, _, J7, r6, q6⟩
          | next => obtain ⟨σ6, H6, S6, q6⟩ := hsp; exact done S6 fun s7 J7 => ⟨_, _, J7, q6⟩
          | brk => obtain ⟨σ6, H6, S6, q6⟩ := hsp; exact done S6 fun s7 J7 => ⟨_, _, J7, q6⟩
          | cont => obtain ⟨σ6, H6, S6, q6⟩ := hsp; exact done S6 fun s7 J7 => ⟨_, _, J7, q6⟩
    exact go hh w
  · cases f with
    | next => obtain ⟨σ', H', J', q⟩ := hsp; exact wpAny_execs_nil ⟨σ', H', J'.ofTry ok, q⟩
    | brk => obtain ⟨σ', H', J', q⟩ := hsp; exact ⟨σ', H', J'.ofTry ok, q⟩
    | cont => obtain ⟨σ', H', J', q⟩ := hsp; exact ⟨σ', H', J'.ofTry ok, q⟩
    | ret u => obtain ⟨v, σ', H', J', r, q⟩ := hsp; exact ⟨v, σ', H', J'.ofTry ok, r, q⟩
end
end LL

set_option Elab.async false
set_option linter.all false
set_option maxRecDepth 100000
set_option maxHeartbeats 2000000
/-! LNam: a def that is called in an except suite with the held error itself -/
namespace LL
open PySem PySem.Spec PyProof.Rows L2 L2H
/-- what a def promises of a call whose argument may be the held error p -/
structure FnP (P : Program) (w : World) (K : PySem.W.Frag) (mg : Str → Option Value) (base : Heap) (k : Nat) (f : Addr) (fd : FuncData) (ps : List Str) (sp : Addr × Obj → Sp) : Prop where
  len : ∀ p vs H Q E, sp p vs H Q E → vs.length = ps.length
  run : ∀ (A : Around) (outer : List Env) (s : Shared) (H : Hp) (args : Args) (us : List Value) (vs : List V) (Q : VK) (E : XK) (p : Addr × Obj), RoomH k A → PinOk outer H s p → Env0 P w K mg base A outer s H → BindsTo s fd args (ps.zip us) → Vals vs us → sp p vs H Q E →
    codeAny (model P w) A (.call (.ref f) args) (CR CX0 outer P w H s Q E) s
theorem okP {P : Program} {w : World} {K : PySem.W.Frag} {mg : Str → Option Value} {base : Heap} {x qual : Str} {st : Stmt} {f : Addr} {fd : FuncData} {N ps : List Str} {k : Nat} {sp : Addr × Obj → Sp} (F : Fun K x qual st f fd) (S : FnScope N ps (defScope st))
    (len : ∀ p vs H Q E, sp p vs H Q E → vs.length = ps.length)
    (hb : ∀ (cdv : Value) (A : Around) (outer : List Env) (s : Shared) (H : Hp) (vs : List V) (Q : VK) (E : XK) (p : Addr × Obj), RoomH k (A.deeper (envOfC qual (defScope st) s.heap.objs.size f cdv)) → sp p vs H Q E →
      ∃ t, PSs (cxH CX0 P w K mg base N qual (defScope st) f cdv A outer s H E p) (defBody st) t ∧ t { nx := fun _ H' => Q .non H', rt := Q } (L2.start N vs) H) :
    FnP P w K mg base (k + 1) f fd ps sp := by
  obtain ⟨o1, o2, kV, doc, pm, an, cdv, ct, osl, e, lk, hcd⟩ := F.ex
  subst e
  constructor
  case len => exact len
  case run =>
    intro A outer s H args us vs Q E p hr hpin e0 hbd r hsp
    have hl := len _ _ _ _ _ hsp
    have inK : K.In s.heap := e0.mod.kin.keeps fun b o e => (e0.bs b o e).1
    have noLim : s.heap.NoLimit := e0.mod.nolimit.keeps fun b o e => (e0.bs b o e).1
    have kinds : ∀ y ∈ ps.zip us, (defScope st).names.lookup y.1 = some .local ∨ ((defScope st).names.lookup y.1 = some .cell ∧ ((cellsFrom (s.heap.objs.size + 1) (defScope st).names []).lookup y.1).isSome = true) := by
      rintro ⟨n, v⟩ hy
      rcases S.par n (List.of_mem_zip hy).1 with q | q
      · exact .inl q
      · exact .inr ⟨q, PySem.W.cellsFrom_some _ _ _ (.inl q)⟩
    refine codeAny_call_function hr.depth (inK _ _ lk) rfl S.co S.gen rfl (PySem.W.codeRec_of inK hcd) (hbd _ _ _ _ (wpAny_newFunctionEnv_cells S.kind kinds fun env he s1 x => ?_))
    subst he
    refine ⟨noLim.keeps x.toInCall.keep, codeAny_func ?_⟩
    obtain ⟨t, ht, hq⟩ := hb cdv A outer s H vs Q E p (hr.deeper _) hsp
    have I := inv_startH (CX := CX0) (mg := mg) (E := E) S hpin e0 hl r x
    refine wpAny_mono (ht.run [] s1 (L2.start N vs) H _ I hq) (fun fl s' hs => ?_) fun e s' hs => hs
    cases fl with
    | ret u =>
      obtain ⟨v, σ', H', J, rv, q⟩ := hs
      exact ⟨v, H', J.os, J.bare, J.base, J.hok, rv, q⟩
    | next =>
      obtain ⟨σ', H', J, q⟩ := hs
      exact ⟨V.non, H', J.os, J.bare, J.base, J.hok, rfl, q⟩
    | brk => obtain ⟨_, _, _, q⟩ := hs; exact q.elim
    | cont => obtain ⟨_, _, _, q⟩ := hs; exact q.elim
def tCallP (sp : Addr × Obj → Sp) (p : Addr × Obj) (E : XK) (t : TA) : TE := fun σ H Q => t σ H fun vs H1 => sp p vs H1 Q E
theorem pe_callP {X : Cx} {k : Nat} {f : Addr} {fd : FuncData} {ps : List Str} {sp : Addr × Obj → Sp} {E : XK} {x : Str} {q pos : Pos} {e : Expr} {es : List Expr} {t : TA} {p : Addr × Obj} (F : FnP X.prog X.w X.K X.mg X.base k f fd ps sp) (hr : RoomH k X.A) (hp : p ∈ X.pn) (hg : Gl X x)
    (hm : X.mg x = some (.ref f)) (hk : PySem.W.keepIn X.K (.ref f) = true) (hb : Binds X.K fd ps []) (ha : PA X (e :: es) t) (hdb : (x == ("__debug__" : Str)) = false := by decide) (he : starEach (e :: es) X.env = (false, eval e X.env) :: starEach es X.env := by rfl)
    (hpl : (backTo pos (starEach es X.env)).any (·.1) = false := by rfl) : PE X (.Call (.Name x q) (e :: es) [] pos) (tCallP sp p E t) := by
  refine ⟨fun pins s σ H Q I h => wpAny_Call_Name_kw (ld_glob I hg hm ?_ hdb)⟩
  refine PySem.W.callWith_K (h₀ := X.base) I.ok.mod.kin hk (thn (ha.run pos pins s σ H _ I h) fun us s1 ⟨vs, H1, I1, r, hs⟩ => ⟨I1.kIn, ?_⟩) he hpl
  have hl : us.length = ps.length := by rw [← r.length]; exact F.len _ _ _ _ _ hs
  have b := hb s1 us I1.kIn (by rw [List.append_nil]; exact hl)
  rw [List.append_nil] at b
  have P1 := I1.pin p (List.mem_append_left _ hp)
  have hpin : PinOk X.stack H1 s1 p := ⟨P1.1, P1.2.1, fun hm => (List.mem_cons.mp (I1.stkSub p.1 hm)).elim P1.2.2.1 P1.2.2.2.1, P1.2.2.2.2⟩
  refine wpAny_call (codeAny_mono (F.run X.A X.stack s1 H1 ⟨us, []⟩ us vs Q E p hr hpin I1.env0 b r hs) fun r s' hq => ?_)
  cases r with
  | error e => exact False.elim hq
  | ok fl =>
    cases fl with
    | ret u => exact I1.after hq
    | next => exact False.elim hq
    | brk => exact False.elim hq
    | cont => exact False.elim hq
end LL

set_option Elab.async false
set_option linter.all false
set_option maxRecDepth 100000
set_option maxHeartbeats 400000
namespace LL
open PySem PySem.Spec PyProof.Rows L2
theorem szL_le {k : Nat} : ∀ {ds : List PyData}, (∀ d ∈ ds, sz d ≤ k) → szL ds ≤ k * ds.length
  | [], _ => by rw [szL_nil]; exact Nat.zero_le _
  | d :: ds, h => by
    have := szL_le (ds := ds) (fun x hx => h x (List.mem_cons_of_mem _ hx))
    have := h d List.mem_cons_self
    rw [szL_cons, List.length_cons, Nat.mul_succ]
    omega
theorem depL_le {k : Nat} : ∀ {ds : List PyData}, (∀ d ∈ ds, dep d ≤ k) → depL ds ≤ k
  | [], _ => by rw [depL_nil]; exact Nat.zero_le _
  | d :: ds, h => by
    have := depL_le (ds := ds) (fun x hx => h x (List.mem_cons_of_mem _ hx))
    have := h d List.mem_cons_self
    rw [depL_cons]
    omega
theorem IsDs.setV {M : List Addr} {H : Hp} {v : V} {d : PyData} (x : Is M H d v) : ∀ {ds : List PyData} {vs : List V} (j : Nat), IsDs M H ds vs → IsDs M H (ds.set j d) (vs.set j v)
  | [], vs, j, y => by
    unfold IsDs at y
    subst y
    exact IsDs.nil
  | e :: ds, vs, 0, y => by
    unfold IsDs at y
    obtain ⟨v', r, rfl, h1, h2⟩ := y
    exact IsDs.cons x h2
  | e :: ds, vs, j + 1, y => by
    unfold IsDs at y
    obtain ⟨v', r, rfl, h1, h2⟩ := y
    exact IsDs.cons h1 (IsDs.setV x j h2)
theorem mem_set {α : Type} {P : α → Prop} {d : α} (hd : P d) : ∀ {ds : List α} (j : Nat), (∀ x ∈ ds, P x) → ∀ x ∈ ds.set j d, P x := fun {ds} j h x hx => by
  rcases List.mem_or_eq_of_mem_set hx with h1 | h1
  · exact h x h1
  · rw [h1]; exact hd
/-- a sheet of good rows, a stream beside it -/
structure ShAt (H : Hp) (s sh : Addr) (rs : List V) (ds : List PyData) : Prop where
  str : StrAt [s] H s
  ne : sh ≠ s
  at_ : H sh = some (.lst rs)
  rd : IsDs [s] H ds rs
  len : ds.length ≤ 200
  sm : ∀ d ∈ ds, Small d
theorem ShAt.adv {H H' : Hp} {s sh : Addr} {rs : List V} {ds : List PyData} (x : ShAt H s sh rs ds) (a : Adv [s] H H') (hs : StrAt [s] H' s) : ShAt H' s sh rs ds :=
  ⟨hs, x.ne, a _ _ (by simpa using x.ne) x.at_, x.rd.adv a, x.len, x.sm⟩
theorem ShAt.same {H H' : Hp} {s sh : Addr} {rs : List V} {ds : List PyData} (x : ShAt H s sh rs ds) (a : Adv [] H H') : ShAt H' s sh rs ds := x.adv (Adv.nil a) (x.str.same a)
theorem ShAt.is {H : Hp} {s sh : Addr} {rs : List V} {ds : List PyData} (x : ShAt H s sh rs ds) : Is [s] H (.list ds) (.ref sh) := Is.lst x.at_ (by simpa using x.ne) x.rd
theorem sm_sz {ds : List PyData} (h : ∀ d ∈ ds, Small d) (hl : ds.length ≤ 200) : szL ds ≤ 800 := by
  have := szL_le (k := 4) (fun d hd => (h d hd).1)
  omega
theorem sm_dep {ds : List PyData} (h : ∀ d ∈ ds, Small d) : depL ds ≤ 1 := depL_le fun d hd => (h d hd).2.1
/-- a copy that is bent -/
structure BtAt (H : Hp) (s bt : Addr) (rs : List V) (ds : List PyData) : Prop where
  str : StrAt [bt, s] H s
  ne : bt ≠ s
  at_ : H bt = some (.lst rs)
  rd : IsDs [bt, s] H ds rs
  len : ds.length ≤ 300
  sm : ∀ d ∈ ds, sz d ≤ 10 ∧ dep d ≤ 3
theorem BtAt.al {H : Hp} {s bt : Addr} {rs : List V} {ds : List PyData} (x : BtAt H s bt rs ds) : ∀ b ∈ [bt, s], H b ≠ none := fun b hb => by
  simp at hb
  rcases hb with h | h
  · rw [h, x.at_]; simp
  · rw [h]; exact x.str.here
theorem BtAt.adv {H H' : Hp} {s bt : Addr} {rs : List V} {ds : List PyData} (x : BtAt H s bt rs ds) (a : Adv [s] H H') (hs : StrAt [bt, s] H' s) : BtAt H' s bt rs ds :=
  ⟨hs, x.ne, a _ _ (by simpa using x.ne) x.at_, x.rd.adv (a.more (by simp)), x.len, x.sm⟩
theorem BtAt.same {H H' : Hp} {s bt : Addr} {rs : List V} {ds : List PyData} (x : BtAt H s bt rs ds) (a : Adv [] H H') : BtAt H' s bt rs ds := x.adv (Adv.nil a) (x.str.same a)
theorem BtAt.is {H : Hp} {s bt : Addr} {rs : List V} {ds : List PyData} (x : BtAt H s bt rs ds) : Is [] H (.list ds) (.ref bt) := Is.lst x.at_ (by simp) (x.rd.less (by simp))
theorem BtAt.szB {H : Hp} {s bt : Addr} {rs : List V} {ds : List PyData} (x : BtAt H s bt rs ds) : sz (.list ds) ≤ 500000 := by
  have := szL_le (k := 10) (fun d hd => (x.sm d hd).1)
  have := x.len
  rw [sz_lst]
  omega
theorem BtAt.depB {H : Hp} {s bt : Addr} {rs : List V} {ds : List PyData} (x : BtAt H s bt rs ds) : dep (.list ds) ≤ 8 := by
  have := depL_le (k := 3) (fun d hd => (x.sm d hd).2)
  rw [dep_lst]
  omega
theorem BtAt.put {H : Hp} {s bt : Addr} {rs : List V} {ds : List PyData} (x : BtAt H s bt rs ds) {v : V} {d : PyData} (j : Nat) (hv : Is [bt, s] H d v) (h1 : sz d ≤ 10) (h2 : dep d ≤ 3) : BtAt (upd H bt (.lst (rs.set j v))) s bt (rs.set j v) (ds.set j d) := by
  have a : Adv [bt] H (upd H bt (.lst (rs.set j v))) := Adv.set (by simp)
  have a2 : Adv [bt, s] H (upd H bt (.lst (rs.set j v))) := a.more (by simp)
  exact ⟨x.str.adv a (by simpa using x.ne.symm) (by simp), x.ne, upd_same, (IsDs.setV hv j x.rd).adv a2, by rw [List.length_set]; exact x.len, mem_set (P := fun d => sz d ≤ 10 ∧ dep d ≤ 3) ⟨h1, h2⟩ j x.sm⟩
theorem BtAt.push {H : Hp} {s bt : Addr} {rs : List V} {ds : List PyData} (x : BtAt H s bt rs ds) {v : V} {d : PyData} (hv : Is [bt, s] H d v) (h1 : sz d ≤ 10) (h2 : dep d ≤ 3) (hl : ds.length ≤ 200) : BtAt (upd H bt (.lst (rs ++ [v]))) s bt (rs ++ [v]) (ds ++ [d]) := by
  have a : Adv [bt] H (upd H bt (.lst (rs ++ [v]))) := Adv.set (by simp)
  have a2 : Adv [bt, s] H (upd H bt (.lst (rs ++ [v]))) := a.more (by simp)
  refine ⟨x.str.adv a (by simpa using x.ne.symm) (by simp), x.ne, upd_same, (x.rd.app (.cons hv .nil)).adv a2, by rw [List.length_append, List.length_singleton]; omega, fun y hy => ?_⟩
  rcases List.mem_append.mp hy with h | h
  · exact x.sm y h
  · rw [List.mem_singleton.mp h]; exact ⟨h1, h2⟩
theorem ShAt.bend {H : Hp} {s sh bt : Addr} {rs : List V} {ds : List PyData} (x : ShAt H s sh rs ds) (n : H bt = none) : BtAt (upd H bt (.lst rs)) s bt rs ds := by
  have ns : s ≠ bt := fun z => x.str.here (by rw [z]; exact n)
  have a : Adv [] H (upd H bt (.lst rs)) := Adv.new n
  exact ⟨(x.str.fresh n).same a, ns.symm, upd_same, (x.rd.fresh n).adv (Adv.nil a), by have := x.len; omega, fun d hd => ⟨by have := (x.sm d hd).1; omega, by have := (x.sm d hd).2.1; omega⟩⟩
theorem BtAt.sheet {H0 H : Hp} {s sh bt : Addr} {rs rs' : List V} {ds ds' : List PyData} (x : BtAt H s bt rs' ds') (y : ShAt H0 s sh rs ds) (n : H0 bt = none) (a : Adv [bt, s] H0 H) : ShAt H s sh rs ds :=
  y.adv (a.drop n) (x.str.less (by simp))
end LL

set_option Elab.async false
set_option linter.all false
set_option maxRecDepth 100000
set_option maxHeartbeats 4000000
namespace K01
open PySem PySem.Spec PyProof.Rows L2 LL
def top (i : Nat) : Stmt := PySem.Challenge.pw_provedorshown_k01_whole_rows_of_sheets.main.body.getD i (.Pass ⟨0, 0, 0, 0⟩)
abbrev s_is_integer : Stmt := top 19
theorem sc_is_integer : FnScope ["value"] ["value"] (defScope s_is_integer) := ⟨rfl, rfl, rfl, by decide +kernel, rfl, by decide +kernel, by decide +kernel⟩
abbrev s_is_between : Stmt := top 20
theorem sc_is_between : FnScope ["value", "low", "high"] ["value", "low", "high"] (defScope s_is_between) := ⟨rfl, rfl, rfl, by decide +kernel, rfl, by decide +kernel, by decide +kernel⟩
abbrev s_check_logic : Stmt := top 27
theorem sc_check_logic : FnScope ["logic"] ["logic"] (defScope s_check_logic) := ⟨rfl, rfl, rfl, by decide +kernel, rfl, by decide +kernel, by decide +kernel⟩
abbrev s_is_boxed : Stmt := top 28
theorem sc_is_boxed : FnScope ["logic"] ["logic"] (defScope s_is_boxed) := ⟨rfl, rfl, rfl, by decide +kernel, rfl, by decide +kernel, by decide +kernel⟩
abbrev s_is_node : Stmt := top 29
theorem sc_is_node : FnScope ["value", "row", "boxed", "word", "part"] ["value", "row", "boxed"] (defScope s_is_node) := ⟨rfl, rfl, rfl, by decide +kernel, rfl, by decide +kernel, by decide +kernel⟩
abbrev s_wrong_row : Stmt := top 30
theorem sc_wrong_row : FnScope ["value", "most", "boxed", "seen", "row", "node"] ["value", "most", "boxed"] (defScope s_wrong_row) := ⟨rfl, rfl, rfl, by decide +kernel, rfl, by decide +kernel, by decide +kernel⟩
abbrev s_check_rows_of : Stmt := top 31
theorem sc_check_rows_of : FnScope ["sheet", "most", "boxed", "row"] ["sheet", "most", "boxed"] (defScope s_check_rows_of) := ⟨rfl, rfl, rfl, by decide +kernel, rfl, by decide +kernel, by decide +kernel⟩
abbrev s_check_sheet : Stmt := top 32
theorem sc_check_sheet : FnScope ["logic", "sheet"] ["logic", "sheet"] (defScope s_check_sheet) := ⟨rfl, rfl, rfl, by decide +kernel, rfl, by decide +kernel, by decide +kernel⟩
abbrev s_law_stream : Stmt := top 34
theorem sc_law_stream : FnScope ["script"] ["script"] (defScope s_law_stream) := ⟨rfl, rfl, rfl, by decide +kernel, rfl, by decide +kernel, by decide +kernel⟩
abbrev s_law_next : Stmt := top 35
theorem sc_law_next : FnScope ["stream", "many", "k", "cell", "digit"] ["stream", "many"] (defScope s_law_next) := ⟨rfl, rfl, rfl, by decide +kernel, rfl, by decide +kernel, by decide +kernel⟩
abbrev s_law_pick : Stmt := top 36
theorem sc_law_pick : FnScope ["stream", "rows"] ["stream", "rows"] (defScope s_law_pick) := ⟨rfl, rfl, rfl, by decide +kernel, rfl, by decide +kernel, by decide +kernel⟩
abbrev s_law_from : Stmt := top 37
theorem sc_law_from : FnScope ["stream", "low", "high"] ["stream", "low", "high"] (defScope s_law_from) := ⟨rfl, rfl, rfl, by decide +kernel, rfl, by decide +kernel, by decide +kernel⟩
abbrev s_law_number : Stmt := top 38
theorem sc_law_number : FnScope ["value", "low", "high"] ["value", "low", "high"] (defScope s_law_number) := ⟨rfl, rfl, rfl, by decide +kernel, rfl, by decide +kernel, by decide +kernel⟩
abbrev s_law_same : Stmt := top 39
theorem sc_law_same : FnScope ["actual", "due", "left", "turn", "one", "other", "at", "key"] ["actual", "due"] (defScope s_law_same) := ⟨rfl, rfl, rfl, by decide +kernel, rfl, by decide +kernel, by decide +kernel⟩
abbrev s_law_copy : Stmt := top 40
theorem sc_law_copy : FnScope ["value", "found", "key", "item"] ["value"] (defScope s_law_copy) := ⟨rfl, rfl, rfl, by decide +kernel, rfl, by decide +kernel, by decide +kernel⟩
abbrev s_law_named : Stmt := top 41
theorem sc_law_named : FnScope ["error", "names", "fits"] ["error"] (defScope s_law_named) := ⟨rfl, rfl, rfl, by decide +kernel, rfl, by decide +kernel, by decide +kernel⟩
abbrev s_law_row : Stmt := top 42
theorem sc_law_row : FnScope ["book", "node"] ["book", "node"] (defScope s_law_row) := ⟨rfl, rfl, rfl, by decide +kernel, rfl, by decide +kernel, by decide +kernel⟩
abbrev s_law_leaf : Stmt := top 43
theorem sc_law_leaf : FnScope ["stream", "book", "letters"] ["stream", "book", "letters"] (defScope s_law_leaf) := ⟨rfl, rfl, rfl, by decide +kernel, rfl, by decide +kernel, by decide +kernel⟩
abbrev s_law_tree : Stmt := top 44
theorem sc_law_tree : FnScope ["stream", "book", "letters", "many", "boxed", "first", "j", "k"] ["stream", "book", "letters", "many", "boxed"] (defScope s_law_tree) := ⟨rfl, rfl, rfl, by decide +kernel, rfl, by decide +kernel, by decide +kernel⟩
abbrev s_law_heap : Stmt := top 45
theorem sc_law_heap : FnScope ["stream", "book", "letters", "many", "boxed", "k", "rows", "j", "other", "word"] ["stream", "book", "letters", "many", "boxed"] (defScope s_law_heap) := ⟨rfl, rfl, rfl, by decide +kernel, rfl, by decide +kernel, by decide +kernel⟩
abbrev s_law_formula : Stmt := top 46
theorem sc_law_formula : FnScope ["stream", "book", "letters", "many", "boxed"] ["stream", "book", "letters", "many", "boxed"] (defScope s_law_formula) := ⟨rfl, rfl, rfl, by decide +kernel, rfl, by decide +kernel, by decide +kernel⟩
abbrev s_law_is_boxed : Stmt := top 47
theorem sc_law_is_boxed : FnScope ["logic"] ["logic"] (defScope s_law_is_boxed) := ⟨rfl, rfl, rfl, by decide +kernel, rfl, by decide +kernel, by decide +kernel⟩
abbrev s_law_is_node : Stmt := top 48
theorem sc_law_is_node : FnScope ["value", "at", "boxed", "word", "part"] ["value", "at", "boxed"] (defScope s_law_is_node) := ⟨rfl, rfl, rfl, by decide +kernel, rfl, by decide +kernel, by decide +kernel⟩
abbrev s_law_wrong_row : Stmt := top 49
theorem sc_law_wrong_row : FnScope ["value", "most", "boxed", "seen", "at"] ["value", "most", "boxed"] (defScope s_law_wrong_row) := ⟨rfl, rfl, rfl, by decide +kernel, rfl, by decide +kernel, by decide +kernel⟩
abbrev s_law_raw : Stmt := top 50
theorem sc_law_raw : FnScope ["stream", "many", "boxed", "sheet", "table", "at", "node", "word", "j"] ["stream", "many", "boxed"] (defScope s_law_raw) := ⟨rfl, rfl, rfl, by decide +kernel, rfl, by decide +kernel, by decide +kernel⟩
abbrev s_law_sheet : Stmt := top 51
theorem sc_law_sheet : FnScope ["stream", "boxed", "many", "book", "k"] ["stream", "boxed"] (defScope s_law_sheet) := ⟨rfl, rfl, rfl, by decide +kernel, rfl, by decide +kernel, by decide +kernel⟩
abbrev s_law_strange : Stmt := top 52
theorem sc_law_strange : FnScope ["stream", "sheet", "at", "near", "far"] ["stream", "sheet", "at"] (defScope s_law_strange) := ⟨rfl, rfl, rfl, by decide +kernel, rfl, by decide +kernel, by decide +kernel⟩
abbrev s_law_ask : Stmt := top 53
theorem sc_law_ask : FnScope ["logic", "sheet", "answer", "e"] ["logic", "sheet"] (defScope s_law_ask) := ⟨rfl, rfl, rfl, by decide +kernel, rfl, by decide +kernel, by decide +kernel⟩
abbrev s_law_is_answered : Stmt := top 54
theorem sc_law_is_answered : FnScope ["logic", "sheet", "row", "kept"] ["logic", "sheet"] (defScope s_law_is_answered) := ⟨rfl, rfl, rfl, by decide +kernel, rfl, by decide +kernel, by decide +kernel⟩
abbrev s_law : Stmt := top 55
theorem sc_law : FnScope ["script", "stream", "turn", "logic", "sheet", "k", "bent", "more", "at", "value", "whole", "strange", "node"] ["script"] (defScope s_law) := ⟨rfl, rfl, rfl, by decide +kernel, rfl, by decide +kernel, by decide +kernel⟩
/-- the built-ins that the text does not name anew -/
structure Txt (K : PySem.W.Frag) (mg : Str → Option Value) : Prop where
  ValueError : mg "ValueError" = none
  abs : mg "abs" = none
  all : mg "all" = none
  bool : mg "bool" = none
  dict : mg "dict" = none
  enumerate : mg "enumerate" = none
  int : mg "int" = none
  isinstance : mg "isinstance" = none
  len : mg "len" = none
  list : mg "list" = none
  min : mg "min" = none
  range : mg "range" = none
  str : mg "str" = none
  tuple : mg "tuple" = none
/-- the constants of the top -/
structure Con (K : PySem.W.Frag) (mg : Str → Option Value) (w : World) : Prop where
  modal : ∃ a, mg "MODAL" = some (.ref a) ∧ ∀ H, SqT K H a [.str "k", .str "s4", .str "gl"]
  logics : ∃ a, mg "LOGICS" = some (.ref a) ∧ ∀ H, SqT K H a [.str "classical", .str "intuit", .str "k", .str "s4", .str "gl"]
  items : ∃ (a : Addr) (es : Array DictEntry) (n : Nat), mg "ITEMS" = some (.ref a) ∧ KDict K w a es n ∧ ∀ z : Str, ∃ r, PySem.W.nsIn K a z = some r ∧ RelV (match nItems z with | some k => V.int (k : Nat) | none => V.non) (r.getD .none)
  last : ∃ t, mg "LAST_LETTER" = some (.int 7 t)
  most : ∃ t, mg "MOST_ROWS" = some (.int 60 t)
structure All (K : PySem.W.Frag) (mg : Str → Option Value) (w : World) where
  T : Txt K mg
  C : Con K mg w
  is_integer : Df K mg "is_integer" s_is_integer ["value"]
  is_between : Df K mg "is_between" s_is_between ["value", "low", "high"]
  check_logic : Df K mg "check_logic" s_check_logic ["logic"]
  is_boxed : Df K mg "is_boxed" s_is_boxed ["logic"]
  is_node : Df K mg "is_node" s_is_node ["value", "row", "boxed"]
  wrong_row : Df K mg "wrong_row" s_wrong_row ["value", "most", "boxed"]
  check_rows_of : Df K mg "check_rows_of" s_check_rows_of ["sheet", "most", "boxed"]
  check_sheet : Df K mg "check_sheet" s_check_sheet ["logic", "sheet"]
  law_stream : Df K mg "_law_stream" s_law_stream ["script"]
  law_next : Df K mg "_law_next" s_law_next ["stream", "many"]
  law_pick : Df K mg "_law_pick" s_law_pick ["stream", "rows"]
  law_from : Df K mg "_law_from" s_law_from ["stream", "low", "high"]
  law_number : Df K mg "_law_number" s_law_number ["value", "low", "high"]
  law_same : Df K mg "_law_same" s_law_same ["actual", "due"]
  law_copy : Df K mg "_law_copy" s_law_copy ["value"]
  law_named : Df K mg "_law_named" s_law_named ["error"]
  law_row : Df K mg "_law_row" s_law_row ["book", "node"]
  law_leaf : Df K mg "_law_leaf" s_law_leaf ["stream", "book", "letters"]
  law_tree : Df K mg "_law_tree" s_law_tree ["stream", "book", "letters", "many", "boxed"]
  law_heap : Df K mg "_law_heap" s_law_heap ["stream", "book", "letters", "many", "boxed"]
  law_formula : Df K mg "_law_formula" s_law_formula ["stream", "book", "letters", "many", "boxed"]
  law_is_boxed : Df K mg "_law_is_boxed" s_law_is_boxed ["logic"]
  law_is_node : Df K mg "_law_is_node" s_law_is_node ["value", "at", "boxed"]
  law_wrong_row : Df K mg "_law_wrong_row" s_law_wrong_row ["value", "most", "boxed"]
  law_raw : Df K mg "_law_raw" s_law_raw ["stream", "many", "boxed"]
  law_sheet : Df K mg "_law_sheet" s_law_sheet ["stream", "boxed"]
  law_strange : Df K mg "_law_strange" s_law_strange ["stream", "sheet", "at"]
  law_ask : Df K mg "_law_ask" s_law_ask ["logic", "sheet"]
  law_is_answered : Df K mg "_law_is_answered" s_law_is_answered ["logic", "sheet"]
  law : Df K mg "law" s_law ["script"]
end K01

set_option Elab.async false
set_option linter.all false
set_option maxRecDepth 100000
set_option maxHeartbeats 4000000
namespace K01
open PySem PySem.Spec PyProof.Rows L2 LL
open C8 (pss_cut)
section
variable {P : Program} {w : World} {K : PySem.W.Frag} {mg : Str → Option Value} {base : Heap}
/-! ### _law_stream -/
def spStream (K : PySem.W.Frag) : Sp := fun vs H Q _ => ∃ (a : Addr) (ns : List Int), vs = [.ref a] ∧ SqL K H a (ns.map V.int) ∧ ns.length ≤ 63 ∧
  ∀ s H', H s = none → StrAt [] H' s → Adv [] H H' → Q (.ref s) H'
theorem ok_law_stream (A : All K mg w) : FnOk P w K mg base CX0 1 A.law_stream.f A.law_stream.fd ["script"] (spStream K) := by
  refine A.law_stream.F.ok sc_law_stream (fun vs H Q E h => ?_) (fun cdv Ar outer s H vs Q E hr h => ?_)
  · obtain ⟨a, ns, rfl, _⟩ := h
    rfl
  · obtain ⟨a, ns, rfl, hS, hl, q⟩ := h
    refine ⟨_, pss_one (ps_ret (pe_lst (pa_cons (pe_callTy call_list_of (by rfl) A.T.list (by decide +kernel) (pa_cons (pv 0) pa_nil)) (pa_cons pe_int (pa_cons pe_int pa_nil))))), ?_⟩
    refine ⟨_, rfl, a, _, rfl, .inl hS, fun l nl => ?_⟩
    refine ⟨by show 3 ≤ sizeLine; decide, fun p np => ?_⟩
    have npl : l ≠ p := fun z => by rw [← z, upd_same] at np; cases np
    have np0 : H p = none := by rw [upd_ne npl.symm] at np; exact np
    refine q p _ np0 ⟨l, ns, 0, 0, upd_same, by rw [upd_ne npl, upd_same], Int.le_refl _, Int.le_refl _, by simp⟩ ?_
    exact Adv.trans (Adv.new nl) (Adv.new np)
/-! ### _law_next -/
def spNext : Sp := fun vs H Q _ => ∃ (s : Addr) (many : Int) (M : List Addr), vs = [.ref s, .int many] ∧ StrAt M H s ∧ 0 < many ∧ many < 1073741824 ∧
  ∀ d H', 0 ≤ d → d < many → StrAt M H' s → Adv [s] H H' → Q (.int d) H'
theorem ok_law_next (A : All K mg w) : FnOk P w K mg base CX0 1 A.law_next.f A.law_next.fd ["stream", "many"] spNext := by
  refine A.law_next.F.ok sc_law_next (fun vs H Q E h => ?_) (fun cdv Ar outer s H vs Q E hr h => ?_)
  · obtain ⟨a, ns, M, rfl, _⟩ := h
    rfl
  · obtain ⟨s, many, M, rfl, ⟨l, ns, c, k, hs, hl, hc, hk, hlM⟩, hm, hm2, q⟩ := h
    refine ⟨_, (pss_cut (ps_if (pt_cmpR op_eq (pe_ix ix_list (pv 0) pe_int (fun _ _ => rfl)) pe_int (nomark _))
      (pss_cons (ps_set (i := 2) sc_law_next.nd rfl (Or.inl rfl) (pe_ix ix_list (pv 0) pe_int (fun _ _ => rfl)))
      (pss_cons (ps_set (i := 3) sc_law_next.nd rfl (Or.inl rfl) (pe_op op_add pe_int (pv 2)))
      (pss_cut (ps_if (pt_cmpR op_lt (pv 2) (pe_callB call_len_seq (by rfl) A.T.len PySem.boot_len (pa_cons (pe_ix ix_list (pv 0) pe_int (fun _ _ => rfl)) pa_nil)) (nomark _))
        (pss_one (ps_set (i := 3) sc_law_next.nd rfl (Or.inl rfl) (pe_callB call_abs (by rfl) A.T.abs (by decide +kernel) (pa_cons (pe_ix ix_list (pe_ix ix_list (pv 0) pe_int (fun _ _ => rfl)) (pv 2) (fun _ _ => rfl)) pa_nil))))
        pss_nil)
      (pss_cut (ps_if (pt_cmpR op_lt (pv 3) (pe_op op_pow pe_int pe_int) (nomark _))
        (pss_cons (ps_set (i := 3) sc_law_next.nd rfl (Or.inl rfl) (pe_op op_mod (pe_callTy call_int1 (by rfl) A.T.int (by decide +kernel) (pa_cons (pe_op op_add (pe_op op_add (pe_op op_mul (pv 3) pe_int) (pe_op op_mul (pv 2) pe_int)) pe_int) pa_nil)) pe_int))
        (pss_one (ps_set (i := 3) sc_law_next.nd rfl (Or.inl rfl) (pe_op op_add (pe_op op_mul (pe_op op_mod (pe_callTy call_int1 (by rfl) A.T.int (by decide +kernel) (pa_cons (pe_op op_add (pe_op op_mul (pv 3) pe_int) pe_int) pa_nil)) pe_int) pe_int) (pv 3)))))
        pss_nil)
      (pss_cons (ps_asg (pv 3) (pg_sub (pv 0) pe_int set_list))
      (pss_one (ps_asg (pe_op op_add (pv 2) pe_int) (pg_sub (pv 0) pe_int set_list))))))))
      pss_nil)
      (pss_cons (ps_set (i := 4) sc_law_next.nd rfl (Or.inl rfl) (pe_op op_mod (pe_callTy call_int1 (by rfl) A.T.int (by decide +kernel) (pa_cons (pe_ix ix_list (pv 0) pe_int (fun _ _ => rfl)) pa_nil)) (pv 1)))
      (pss_cons (ps_asg (pe_op op_fdiv (pe_ix ix_list (pv 0) pe_int (fun _ _ => rfl)) (pv 1)) (pg_sub (pv 0) pe_int set_list))
      (pss_one (ps_ret (pv 4)))))), ?_⟩
    have at0 : ∀ c k : Int, atI [V.ref l, .int c, .int k] 0 = some (.ref l) := fun _ _ => atI_nat (j := 0) rfl
    have at1 : ∀ c k : Int, atI [V.ref l, .int c, .int k] 1 = some (.int c) := fun _ _ => atI_nat (j := 1) rfl
    have at2 : ∀ c k : Int, atI [V.ref l, .int c, .int k] 2 = some (.int k) := fun _ _ => atI_nat (j := 2) rfl
    have nls : l ≠ s := ne_of hl hs ne_lst_ints.symm
    refine ⟨fun σ' H' => ∃ (c k : Int) (v2 v3 : Option V), σ' = [some (.ref s), some (.int many), v2, v3, none] ∧ H' s = some (.lst [V.ref l, .int c, .int k]) ∧ 0 ≤ c ∧ 0 ≤ k ∧ Adv [s] H H', ?_, ?_⟩
    · refine ⟨_, rfl, s, _, 1, _, rfl, rfl, SqL.of hs, at1 c k, rfl, _, rfl, ?_⟩
      refine iteB (fun e => ?_) (fun e => ⟨c, k, none, none, rfl, hs, hc, hk, Adv.refl _ _⟩)
      -- a new cell
      refine ⟨_, rfl, s, _, 2, _, rfl, rfl, SqL.of hs, at2 c k, ?_⟩
      refine ⟨_, rfl, 7, k, rfl, rfl, ?_⟩
      refine ⟨fun σ' H' => ∃ c1 : Int, σ' = [some (.ref s), some (.int many), some (.int k), some (.int c1), none] ∧ H = H' ∧ 0 ≤ c1, ?_, ?_⟩
      · refine ⟨_, rfl, _, rfl, s, _, 0, _, rfl, rfl, SqL.of hs, at0 c k, l, _, rfl, .inl (SqL.of hl), k, _, rfl, rfl, _, rfl, ?_⟩
        refine iteB (fun e => ?_) (fun e => ⟨7 + k, rfl, rfl, by omega⟩)
        have hlt : k < ns.length := by simpa using e
        obtain ⟨j, rfl⟩ : ∃ j : Nat, k = (j : Int) := ⟨k.toNat, by omega⟩
        have hj : j < ns.length := by omega
        have hg : (ns.map V.int)[j]? = some (.int ns[j]) := by simp [hj]
        refine ⟨_, rfl, s, _, 0, _, rfl, rfl, SqL.of hs, at0 c _, _, rfl, l, _, (j : Int), _, rfl, rfl, SqL.of hl, atI_nat hg, _, rfl, ?_⟩
        refine ⟨_, rfl, rfl, ?_⟩
        split <;> omega
      · rintro σ' H' ⟨c1, rfl, rfl, hc1⟩
        refine ⟨fun σ' H' => ∃ c1 : Int, σ' = [some (.ref s), some (.int many), some (.int k), some (.int c1), none] ∧ H = H' ∧ 0 ≤ c1, ?_, ?_⟩
        · refine ⟨_, rfl, 10, 18, rfl, rfl, ⟨by decide, by decide, by decide⟩, c1, _, rfl, rfl, _, rfl, ?_⟩
          refine iteB (fun e => ?_) (fun e => ⟨c1, rfl, rfl, hc1⟩)
          refine ⟨_, rfl, c1, 48271, rfl, rfl, .inr ⟨by decide, by decide⟩, _, rfl, k, 69621, rfl, rfl, .inr ⟨by decide, by decide⟩, _, _, rfl, rfl, _, _, rfl, rfl, .inl ⟨_, rfl, _, 2147483647, rfl, rfl, by show (0 : Int) < 2147483647; decide, ?_⟩⟩
          refine ⟨_, rfl, _, 16807, rfl, rfl, .inr ⟨by decide, by decide⟩, _, _, rfl, rfl, .inl ⟨_, rfl, _, 2147483647, rfl, rfl, by show (0 : Int) < 2147483647; decide, ?_⟩⟩
          refine ⟨_, _, rfl, rfl, .inr ⟨by decide, by decide⟩, _, rfl, _, _, rfl, rfl, ?_⟩
          refine ⟨_, rfl, rfl, ?_⟩
          omega
        · rintro σ' H' ⟨c2, rfl, rfl, hc2⟩
          refine ⟨_, rfl, _, rfl, s, _, 1, 1, rfl, rfl, hs, rfl, ?_⟩
          refine ⟨_, rfl, k, 1, rfl, rfl, _, rfl, s, _, 2, 2, rfl, rfl, upd_same, rfl, ?_⟩
          refine ⟨c2, k + 1, _, _, rfl, ?_, hc2, by omega, ?_⟩
          · rw [upd_same]
            rfl
          · exact ((Adv.refl _ _).setT (by simp)).setT (by simp)
    · rintro σ' H1 ⟨c, k, v2, v3, rfl, h1, hc, hk, a⟩
      refine ⟨_, rfl, s, _, 1, _, rfl, rfl, SqL.of h1, at1 c k, .inl ⟨c, rfl, _, rfl, c, many, rfl, rfl, hm, ?_⟩⟩
      refine ⟨_, rfl, s, _, 1, _, rfl, rfl, SqL.of h1, at1 c k, _, rfl, c, many, rfl, rfl, ⟨hm, hm2⟩, ?_⟩
      refine ⟨_, rfl, s, _, 1, 1, rfl, rfl, h1, rfl, ?_⟩
      refine ⟨_, rfl, ?_⟩
      have hl1 : H1 l = some (.lst (ns.map V.int)) := a _ _ (by simpa using nls) hl
      refine q _ _ (Int.emod_nonneg _ (Int.ne_of_gt hm)) (Int.emod_lt_of_pos _ hm) ⟨l, ns, c / many, k, upd_same, by rw [upd_ne nls]; exact hl1, Int.ediv_nonneg hc (Int.le_of_lt hm), hk, hlM⟩ ?_
      exact a.setT (by simp)
/-! ### _law_pick: out of a list, out of a tuple -/
def spPick : Sp := fun vs H Q _ => ∃ (s r : Addr) (xs : List V) (M : List Addr), vs = [.ref s, .ref r] ∧ StrAt M H s ∧ (H r = some (.lst xs) ∨ H r = some (.tup xs)) ∧ r ≠ s ∧ xs ≠ [] ∧ xs.length < 1073741824 ∧
  ∀ x H', x ∈ xs → StrAt M H' s → Adv [s] H H' → Q x H'
theorem ok_law_pick (A : All K mg w) : FnOk P w K mg base CX0 2 A.law_pick.f A.law_pick.fd ["stream", "rows"] spPick := by
  refine A.law_pick.F.ok sc_law_pick (fun vs H Q E h => ?_) (fun cdv Ar outer s H vs Q E hr h => ?_)
  · obtain ⟨s, r, xs, M, rfl, _⟩ := h
    rfl
  · obtain ⟨s, r, xs, M, rfl, hs, hx, nrs, hne, hl, q⟩ := h
    refine ⟨_, pss_one (ps_ret (pe_ix (ix_or ix_list ix_tup) (pv 1) (pe_call (ok_law_next A) (hr.mono (by decide)) rfl A.law_next.m A.law_next.F.kp A.law_next.b .nil pass0 (pa_cons (pv 0) (pa_cons (pe_callB call_len_seq (by rfl) A.T.len PySem.boot_len (pa_cons (pv 1) pa_nil)) pa_nil))) (fun _ _ => rfl))), ?_⟩
    have hpos : 0 < xs.length := List.length_pos_iff.mpr hne
    refine ⟨_, rfl, _, rfl, _, rfl, r, xs, rfl, ?_, s, _, M, rfl, hs, by omega, by omega, fun d H' h0 h1 hs' a => ?_⟩
    · rcases hx with h | h
      · exact .inl (SqL.of h)
      · exact .inr (SqT.of h)
    · obtain ⟨j, rfl⟩ : ∃ j : Nat, d = (j : Int) := ⟨d.toNat, by omega⟩
      have hj : j < xs.length := by omega
      have hg : xs[j]? = some xs[j] := List.getElem?_eq_getElem hj
      have nm : r ∉ [s] := by simpa using nrs
      rcases hx with h | h
      · exact .inl ⟨r, xs, j, xs[j], rfl, rfl, SqL.of (a _ _ nm h), atI_nat hg, q _ _ (List.getElem_mem hj) hs' a⟩
      · exact .inr ⟨r, xs, j, xs[j], rfl, rfl, SqT.of (a _ _ nm h), atI_nat hg, q _ _ (List.getElem_mem hj) hs' a⟩
/-! ### _law_from -/
def spFrom : Sp := fun vs H Q _ => ∃ (s : Addr) (lo hi : Int) (M : List Addr), vs = [.ref s, .int lo, .int hi] ∧ StrAt M H s ∧ lo ≤ hi ∧ hi - lo < 1073741823 ∧
  ∀ d H', lo ≤ d → d ≤ hi → StrAt M H' s → Adv [s] H H' → Q (.int d) H'
theorem ok_law_from (A : All K mg w) : FnOk P w K mg base CX0 2 A.law_from.f A.law_from.fd ["stream", "low", "high"] spFrom := by
  refine A.law_from.F.ok sc_law_from (fun vs H Q E h => ?_) (fun cdv Ar outer s H vs Q E hr h => ?_)
  · obtain ⟨s, lo, hi, M, rfl, _⟩ := h
    rfl
  · obtain ⟨s, lo, hi, M, rfl, hs, h1, h2, q⟩ := h
    refine ⟨_, pss_one (ps_ret (pe_op op_add (pv 1) (pe_call (ok_law_next A) (hr.mono (by decide)) rfl A.law_next.m A.law_next.F.kp A.law_next.b .nil pass0 (pa_cons (pv 0) (pa_cons (pe_op op_add (pe_op op_sub (pv 2) (pv 1)) pe_int) pa_nil))))), ?_⟩
    refine ⟨_, rfl, _, rfl, _, rfl, _, rfl, hi, lo, rfl, rfl, _, _, rfl, rfl, s, _, M, rfl, hs, by omega, by omega, fun d H' h0 h1 hs' a => ?_⟩
    exact ⟨lo, d, rfl, rfl, q _ _ (by omega) (by omega) hs' a⟩
end
end K01

set_option Elab.async false
set_option linter.all false
set_option maxRecDepth 100000
set_option maxHeartbeats 4000000
namespace K01
open PySem PySem.Spec PyProof.Rows L2 LL
open C8 (pss_cut)
section
variable {P : Program} {w : World} {K : PySem.W.Frag} {mg : Str → Option Value} {base : Heap}
/-! ### is_integer, is_between -/
def spIsInteger : Sp := fun vs H Q _ => ∃ (v : V) (d : PyData), vs = [v] ∧ Is [] H d v ∧ Q (.bl (kitD d "int" && !kitD d "bool")) H
theorem ok_is_integer (A : All K mg w) : FnOk P w K mg base CX0 1 A.is_integer.f A.is_integer.fd ["value"] spIsInteger := by
  refine A.is_integer.F.ok sc_is_integer (fun vs H Q E h => ?_) (fun cdv Ar outer s H vs Q E hr h => ?_)
  · obtain ⟨v, d, rfl, _⟩ := h
    rfl
  · obtain ⟨v, d, rfl, hv, q⟩ := h
    refine ⟨_, (pss_one (ps_ret (pe_and (pe_callB call_isi (by rfl) A.T.isinstance (by decide +kernel) (pa_cons (pv 0) (pa_cons (pe_bltn (v := .ty "int") (by rfl) A.T.int (by decide +kernel) rfl) pa_nil))) (pe_one (pe_not (pe_callB call_isi (by rfl) A.T.isinstance (by decide +kernel) (pa_cons (pv 0) (pa_cons (pe_bltn (v := .ty "bool") (by rfl) A.T.bool (by decide +kernel) rfl) pa_nil)))))))), ?_⟩
    refine ⟨_, rfl, _, _, _, _, _, rfl, .ty _, hv.ty, k_int d, _, rfl, iteB (fun e => ?_) (fun e => ?_)⟩
    · refine ⟨_, rfl, _, _, _, _, _, rfl, .ty _, hv.ty, k_bool d, _, rfl, ?_⟩
      rw [e, Bool.true_and] at q
      exact q
    · rw [e, Bool.false_and] at q
      exact q
theorem isNum_of (d : PyData) (lo hi : Int) : (if (kitD d "int" && !kitD d "bool") = true then isNum lo hi d else false) = isNum lo hi d := by
  cases d <;> simp [kitD, isNum, tyN]
def spIsBetween : Sp := fun vs H Q _ => ∃ (v : V) (d : PyData) (lo hi : Int), vs = [v, .int lo, .int hi] ∧ Is [] H d v ∧ Q (.bl (isNum lo hi d)) H
theorem ok_is_between (A : All K mg w) : FnOk P w K mg base CX0 2 A.is_between.f A.is_between.fd ["value", "low", "high"] spIsBetween := by
  refine A.is_between.F.ok sc_is_between (fun vs H Q E h => ?_) (fun cdv Ar outer s H vs Q E hr h => ?_)
  · obtain ⟨v, d, lo, hi, rfl, _⟩ := h
    rfl
  · obtain ⟨v, d, lo, hi, rfl, hv, q⟩ := h
    refine ⟨_, (pss_one (ps_ret (pe_and (pe_call (ok_is_integer A) (hr.mono (by decide)) rfl A.is_integer.m A.is_integer.F.kp A.is_integer.b .nil pass0 (pa_cons (pv 0) pa_nil)) (pe_one (pe_chain op_le op_le (pv 1) (pv 0) (pv 2)))))), ?_⟩
    rw [← isNum_of] at q
    refine ⟨_, rfl, v, d, rfl, hv, _, rfl, iteB (fun e => ?_) (fun e => ?_)⟩
    · rw [if_pos e] at q
      cases d with
      | int i =>
        cases hv.intE
        refine ⟨_, rfl, _, rfl, lo, i, rfl, rfl, _, rfl, iteB (fun e1 => ?_) (fun e1 => ?_)⟩
        · refine ⟨_, rfl, i, hi, rfl, rfl, ?_⟩
          have q' : Q (.bl (decide (lo ≤ i) && decide (i ≤ hi))) H := q
          rw [e1, Bool.true_and] at q'
          exact q'
        · have q' : Q (.bl (decide (lo ≤ i) && decide (i ≤ hi))) H := q
          rw [e1, Bool.false_and] at q'
          exact q'
      | _ => simp [kitD, tyN] at e
    · rw [if_neg (by rw [e]; decide)] at q
      exact q
/-! ### _law_number -/
theorem ok_law_number (A : All K mg w) : FnOk P w K mg base CX0 1 A.law_number.f A.law_number.fd ["value", "low", "high"] spIsBetween := by
  refine A.law_number.F.ok sc_law_number (fun vs H Q E h => ?_) (fun cdv Ar outer s H vs Q E hr h => ?_)
  · obtain ⟨v, d, lo, hi, rfl, _⟩ := h
    rfl
  · obtain ⟨v, d, lo, hi', rfl, hv, q⟩ := h
    refine ⟨_, (pss_cons (ps_if (PW.pt (pw_or (pt_not (pt_val (pe_callB call_isi (by rfl) A.T.isinstance (by decide +kernel) (pa_cons (pv 0) (pa_cons (pe_bltn (v := .ty "int") (by rfl) A.T.int (by decide +kernel) rfl) pa_nil))))) (pw_or1 (pt_val (pe_callB call_isi (by rfl) A.T.isinstance (by decide +kernel) (pa_cons (pv 0) (pa_cons (pe_bltn (v := .ty "bool") (by rfl) A.T.bool (by decide +kernel) rfl) pa_nil)))))))
    (pss_one (ps_ret pe_bl))
    pss_nil)
  (pss_one (ps_ret (pe_and (pe_cmpR op_le (pv 1) (pv 0) (nomark _)) (pe_one (pe_cmpR op_le (pv 0) (pv 2) (nomark _))))))), ?_⟩
    rw [← isNum_of] at q
    refine ⟨_, rfl, _, _, _, _, _, rfl, .ty _, hv.ty, k_int d, _, rfl, ?_⟩
    cases hi : kitD d "int" with
    | false =>
      refine iteY rfl ?_
      rw [hi] at q
      exact q
    | true =>
      refine iteN rfl ?_
      refine ⟨_, rfl, _, _, _, _, _, rfl, .ty _, hv.ty, k_bool d, _, rfl, ?_⟩
      cases hb : kitD d "bool" with
      | true =>
        refine iteY rfl ?_
        rw [hi, hb] at q
        exact q
      | false =>
        refine iteN rfl ?_
        rw [hi, hb] at q
        cases d with
        | int i =>
          cases hv.intE
          refine ⟨_, rfl, _, rfl, lo, i, rfl, rfl, _, rfl, iteB (fun e1 => ?_) (fun e1 => ?_)⟩
          · refine ⟨_, rfl, _, rfl, i, hi', rfl, rfl, ?_⟩
            have q' : Q (.bl (decide (lo ≤ i) && decide (i ≤ hi'))) H := q
            rw [e1, Bool.true_and] at q'
            exact q'
          · have q' : Q (.bl (decide (lo ≤ i) && decide (i ≤ hi'))) H := q
            rw [e1, Bool.false_and] at q'
            exact q'
        | _ => simp [kitD, tyN] at hi hb
/-! ### is_boxed, _law_is_boxed, check_logic of a right logic -/
def logicB (x : Str) : Bool := x = "k" || x = "s4" || x = "gl"
def logicOk (x : Str) : Bool := x = "classical" || x = "intuit" || x = "k" || x = "s4" || x = "gl"
theorem inV_strs (x : Str) (ws : List Str) : inV (.str x) (ws.map V.str) = ws.any fun y => decide (x = y) := by
  unfold inV
  rw [List.any_map]
  congr 1
  funext y
  show (y == x) = decide (x = y)
  by_cases h : x = y
  · subst h; simp
  · have h2 : ¬ y = x := fun z => h z.symm
    simp [h, h2]
def spIsBoxed : Sp := fun vs H Q _ => ∃ (x : Str), vs = [.str x] ∧ ∀ H', Adv [] H H' → Q (.bl (logicB x)) H'
theorem ok_is_boxed (A : All K mg w) : FnOk P w K mg base CX0 1 A.is_boxed.f A.is_boxed.fd ["logic"] spIsBoxed := by
  refine A.is_boxed.F.ok sc_is_boxed (fun vs H Q E h => ?_) (fun cdv Ar outer s H vs Q E hr h => ?_)
  · obtain ⟨x, rfl, _⟩ := h
    rfl
  · obtain ⟨x, rfl, q⟩ := h
    obtain ⟨a, ma, ha⟩ := A.C.modal
    refine ⟨_, (pss_one (ps_ret (pe_cmpR op_in_seq (pv 0) (pe_glob (v := .ref a) rfl ma rfl) rfl))), ?_⟩
    refine ⟨_, rfl, a, _, rfl, .inr (ha H), rfl, by decide, ?_⟩
    have e : inV (.str x) [.str "k", .str "s4", .str "gl"] = logicB x := (inV_strs x ["k", "s4", "gl"]).trans (by simp [logicB, Bool.or_assoc])
    rw [if_neg Bool.false_ne_true, e]
    exact q H (Adv.refl _ _)
theorem ok_law_is_boxed (A : All K mg w) : FnOk P w K mg base CX0 1 A.law_is_boxed.f A.law_is_boxed.fd ["logic"] spIsBoxed := by
  refine A.law_is_boxed.F.ok sc_law_is_boxed (fun vs H Q E h => ?_) (fun cdv Ar outer s H vs Q E hr h => ?_)
  · obtain ⟨x, rfl, _⟩ := h
    rfl
  · obtain ⟨x, rfl, q⟩ := h
    refine ⟨_, (pss_one (ps_ret (pe_cmpR op_in_seq (pv 0) (pe_tup (pa_cons pe_str (pa_cons pe_str (pa_cons pe_str pa_nil)))) rfl))), ?_⟩
    refine ⟨_, rfl, by show 3 ≤ sizeLine; decide, fun p np => ⟨p, _, rfl, .inr (SqT.of upd_same), rfl, by decide, ?_⟩⟩
    have e : inV (.str x) [.str "k", .str "s4", .str "gl"] = logicB x := (inV_strs x ["k", "s4", "gl"]).trans (by simp [logicB, Bool.or_assoc])
    rw [if_neg Bool.false_ne_true, e]
    exact q _ (Adv.new np)
end
end K01

set_option Elab.async false
set_option linter.all false
set_option maxRecDepth 100000
set_option maxHeartbeats 4000000
namespace K01
open PySem PySem.Spec PyProof.Rows L2 LL
open C8 (pss_cut)
theorem cut_from1 (xs : List V) : cutV xs (some 1) none = xs.drop 1 := by
  unfold cutV
  rw [show HT.sIx xs.length 0 (some 1) = min 1 xs.length from HT.sIx_nat xs.length 0 1, HT.sIx_none]
  cases xs with
  | nil => rfl
  | cons x r =>
    have e : min 1 (x :: r).length = 1 := by rw [List.length_cons]; omega
    rw [e]
    simp
theorem all_id (bs : List Bool) (f : PyData → Bool) (ds : List PyData) (h : bs = ds.map f) : bs.all id = ds.all f := by
  rw [h, List.all_map]
  rfl
section
variable {P : Program} {w : World} {K : PySem.W.Frag} {mg : Str → Option Value} {base : Heap}
def spIsNode : Sp := fun vs H Q _ => ∃ (v : V) (d : PyData) (row : Int) (boxed : Bool), vs = [v, .int row, .bl boxed] ∧ Is [] H d v ∧ ∀ H', Adv [] H H' → Q (.bl (nodeB boxed row d)) H'
theorem ok_is_node (A : All K mg w) : FnOk P w K mg base CX0 3 A.is_node.f A.is_node.fd ["value", "row", "boxed"] spIsNode := by
  refine A.is_node.F.ok sc_is_node (fun vs H Q E h => ?_) (fun cdv Ar outer s H vs Q E hr h => ?_)
  · obtain ⟨v, d, row, boxed, rfl, _⟩ := h
    rfl
  · obtain ⟨v, d, row, boxed, rfl, hv, q⟩ := h
    obtain ⟨tL, mL⟩ := A.C.last
    obtain ⟨ai, es, n, mi, KD, hi⟩ := A.C.items
    refine ⟨_, (pss_cons (ps_if (PW.pt (pw_or (pt_not (pt_val (pe_callB call_isi (by rfl) A.T.isinstance (by decide +kernel) (pa_cons (pv 0) (pa_cons (pe_bltn (v := .ty "tuple") (by rfl) A.T.tuple (by decide +kernel) rfl) pa_nil))))) (pw_or (pt_cmpR op_eq (pe_callB call_len_seq (by rfl) A.T.len PySem.boot_len (pa_cons (pv 0) pa_nil)) pe_int (nomark _)) (pw_or1 (pt_not (pt_val (pe_callB call_isi (by rfl) A.T.isinstance (by decide +kernel) (pa_cons (pe_ix ix_tup (pv 0) pe_int (fun _ _ => rfl)) (pa_cons (pe_bltn (v := .ty "str") (by rfl) A.T.str (by decide +kernel) rfl) pa_nil)))))))))
    (pss_one (ps_ret pe_bl))
    pss_nil)
  (pss_cons (ps_set (i := 3) sc_is_node.nd rfl (Or.inl rfl) (pe_ix ix_tup (pv 0) pe_int (fun _ _ => rfl)))
  (pss_cons (ps_if (pt_cmpR op_ne (pe_kget (pe_glob (v := .ref ai) rfl mi rfl) (pv 3) ⟨rfl, rfl, rfl, rfl⟩) (pe_callB call_len_seq (by rfl) A.T.len PySem.boot_len (pa_cons (pv 0) pa_nil)) (nomark _))
    (pss_one (ps_ret pe_bl))
    pss_nil)
  (pss_cons (ps_if (pt_cmpR op_eq (pv 3) pe_str (nomark _))
    (pss_one (ps_ret (pe_call (ok_is_between A) (hr.mono (by omega)) rfl A.is_between.m A.is_between.F.kp A.is_between.b .nil pass0 (pa_cons (pe_ix ix_tup (pv 0) pe_int (fun _ _ => rfl)) (pa_cons pe_int (pa_cons (pe_glob (v := .int 7) rfl mL ⟨_, rfl⟩) pa_nil))))))
    pss_nil)
  (pss_cons (ps_if (PW.pt (pw_and (pt_cmpR op_eq (pv 3) pe_str (nomark _)) (pw_and1 (pt_not (pt_val (pv 2))))))
    (pss_one (ps_ret pe_bl))
    pss_nil)
  (pss_one (ps_ret (pe_callB (cr_all rfl) (by rfl) A.T.all (by decide +kernel) (pa_cons (pe_lc (own := [("part", 4)]) (g := gName 4) rfl sc_is_node.nd (pi_tup (pe_slice sl_tup (pv 0) (po_some pe_int) po_none)) (blkOk_by (own := [("part", 4)]) (N := ["value", "row", "boxed", "word", "part"]) (sc := defScope s_is_node) (by decide +kernel)) (fun _ _ _ _ _ => pg_name (i := 4) sc_is_node.nd rfl (Or.inl rfl)) (fun _ _ _ _ _ => pts_nil) (fun _ _ _ _ _ => (pe_call (ok_is_between A) (hr.mono (by omega)) rfl A.is_between.m A.is_between.F.kp A.is_between.b .nil pass0 (pa_cons (pv 4) (pa_cons pe_int (pa_cons (pe_op op_sub (pv 1) pe_int) pa_nil)))))) pa_nil))))))))), ?_⟩
    have no : ¬ (∃ ds, d = .tuple ds) → kitD d "tuple" = false ∧ nodeB boxed row d = false := fun h => by
      cases d with
      | tuple ds => exact absurd ⟨ds, rfl⟩ h
      | _ => exact ⟨by simp [kitD, tyN], rfl⟩
    refine ⟨_, rfl, _, _, _, _, _, rfl, .ty _, hv.ty, k_tuple d, _, rfl, ?_⟩
    by_cases ht : ∃ ds, d = .tuple ds
    case neg =>
      obtain ⟨e1, e2⟩ := no ht
      refine iteY (by rw [e1]; rfl) (iteY rfl ?_)
      have q' := q H (Adv.refl _ _)
      rw [e2] at q'
      exact q'
    obtain ⟨ds, rfl⟩ := ht
    refine iteN (by simp [kitD, tyN]) ?_
    obtain ⟨a, vs, rfl, na, ha, hs⟩ := hv.tupE
    refine ⟨_, rfl, a, vs, rfl, .inr (SqT.of ha), rfl, _, rfl, ?_⟩
    cases ds with
    | nil =>
      have e0 : vs = [] := by unfold IsDs at hs; exact hs
      subst e0
      exact iteY rfl (iteY rfl (q H (Adv.refl _ _)))
    | cons d0 ps =>
      have hlen := hs.len
      have hs' := hs
      unfold IsDs at hs
      obtain ⟨v0, rs, rfl, h0, hps⟩ := hs
      refine iteN (by simp [List.length_cons]; omega) ?_
      refine ⟨_, rfl, a, _, 0, v0, rfl, rfl, SqT.of ha, atI_nat (j := 0) rfl, _, _, _, _, _, rfl, .ty _, h0.ty, k_str d0, _, rfl, ?_⟩
      by_cases hw : ∃ w, d0 = .str w
      case neg =>
        have e1 : kitD d0 "str" = false := by
          cases d0 with
          | str x => exact absurd ⟨x, rfl⟩ hw
          | _ => simp [kitD, tyN]
        have e2 : nodeB boxed row (.tuple (d0 :: ps)) = false := by
          cases d0 with
          | str x => exact absurd ⟨x, rfl⟩ hw
          | _ => rfl
        refine iteY (by rw [e1]; rfl) ?_
        have q' := q H (Adv.refl _ _)
        rw [e2] at q'
        exact q'
      obtain ⟨wd, rfl⟩ := hw
      cases h0.strE
      refine iteN (by simp [kitD, tyN]) ?_
      -- word = value[0]
      refine ⟨_, rfl, a, _, 0, _, rfl, rfl, SqT.of ha, atI_nat (j := 0) rfl, ?_⟩
      -- ITEMS.get(word) != len(value)
      obtain ⟨r, er, rr⟩ := hi wd
      refine ⟨ai, es, n, rfl, KD, _, rfl, wd, r, _, rfl, er, rr, _, rfl, a, _, rfl, .inr (SqT.of ha), ?_, _, rfl, ?_⟩
      · cases nItems wd <;> rfl
      have hl2 : rs.length = ps.length := hps.len
      have hnode : nodeB boxed row (.tuple (.str wd :: ps)) = (if nItems wd = some (ps.length + 1) then (if wd = "letter" then ps.all (isNum 0 7) else if wd = "box" && !boxed then false else ps.all (isNum 0 (row - 1))) else false) := rfl
      rw [hnode] at q
      by_cases hn : nItems wd = some (ps.length + 1)
      case neg =>
        rw [if_neg hn] at q
        refine iteY ?_ (q H (Adv.refl _ _))
        cases en : nItems wd with
        | none => rfl
        | some k =>
          have hk : ¬ k = ps.length + 1 := fun z => hn (by rw [en, z])
          simp [hl2]
          omega
      rw [if_pos hn] at q
      refine iteN (by rw [hn]; simp [hl2]) ?_
      -- word == 'letter'
      refine ⟨_, rfl, rfl, _, rfl, ?_⟩
      by_cases hlet : wd = "letter"
      · subst hlet
        rw [if_pos rfl] at q
        refine iteY (by simp) ?_
        have h2 : ps.length = 1 := by
          have e : nItems "letter" = some 2 := by decide +kernel
          rw [e] at hn
          have := Option.some.inj hn
          omega
        obtain ⟨p, rfl⟩ : ∃ p, ps = [p] := List.length_eq_one_iff.mp h2
        unfold IsDs at hps
        obtain ⟨v1, r1, rfl, h1, hn1⟩ := hps
        refine ⟨_, rfl, a, _, 1, v1, rfl, rfl, SqT.of ha, atI_nat (j := 1) rfl, v1, p, 0, 7, rfl, h1, ?_⟩
        have q' := q H (Adv.refl _ _)
        simpa using q'
      · rw [if_neg hlet] at q
        refine iteN (by simp [hlet]) ?_
        refine ⟨_, rfl, rfl, _, rfl, ?_⟩
        have go : (wd = "box" && !boxed) = false → tRet (tCB (rAll K) (tCons (tLc (iTup K (tSl (rSlT K) (tVar 0) (tPart (tC (.int 1))) tNoPart)) (gName 4) tYes (tCall spIsBetween [] E0 (tCons (tVar 4) (tCons (tC (.int 0)) (tCons (tOp (rI0 fun i j => .int (i - j)) (tVar 1) (tC (.int 1))) tNil)))) [4]) tNil)) { nx := fun _ H' => Q .non H', rt := Q } [some (.ref a), some (.int row), some (.bl boxed), some (.str wd), none] H := fun hb => by
          rw [if_neg (by rw [hb]; decide)] at q
          refine ⟨_, rfl, 1, rfl, a, _, rfl, SqT.of ha, ?_, fun p np => ?_⟩
          · intro z
            have z1 := z.1
            rw [show HT.sIx (V.str wd :: rs).length 0 (some 1) = min 1 (V.str wd :: rs).length from HT.sIx_nat _ 0 1, List.length_cons] at z1
            omega
          · rw [cut_from1]
            refine ⟨p, rfl, ⟨_, SqT.of upd_same⟩, fun D nD => ?_⟩
            have aP : Adv [] H (upd H p (.tup rs)) := Adv.new np
            refine lc_mapT (K := K) (a := p) (xs := rs) (fun i => V.bl (isNum 0 (row - 1) (ps.getD i .none))) nD (SqT.of upd_same) ?_ ?_ ?_
            · have : ps.length ≤ 3 := by
                unfold nItems at hn
                repeat' (split at hn)
                all_goals first | (have := Option.some.inj hn; omega) | cases hn
              omega
            · intro i x H' acc R hx aH hD k
              have hip : i < ps.length := by rw [← hl2]; exact (List.getElem?_eq_some_iff.mp hx).1
              obtain ⟨dx, hdx, hisx⟩ := hps.getV hx
              have ed : ps.getD i .none = dx := by rw [List.getD_eq_getElem?_getD, hdx]; rfl
              refine ⟨rfl, x, rfl, _, rfl, row, 1, rfl, rfl, x, dx, 0, row - 1, rfl, (hisx.adv (aP.trans aH)), ?_⟩
              have k' := k H' hD aH
              rw [ed] at k'
              exact k'
            · intro H' aH hD
              refine ⟨D, ps.map (isNum 0 (row - 1)), rfl, .inl (.inl ?_), ?_⟩
              · rw [hD, hl2, range_map_list]
              · have q' := q H' (aP.trans aH)
                rw [all_id _ (isNum 0 (row - 1)) ps rfl]
                exact q'
        by_cases hbx : wd = "box"
        · subst hbx
          refine iteY (by simp) ⟨_, rfl, _, rfl, ?_⟩
          cases boxed with
          | true => exact iteN rfl (go (by simp))
          | false =>
            rw [if_pos (by simp)] at q
            exact iteY rfl (q H (Adv.refl _ _))
        · refine iteN (by simp [hbx]) ?_
          exact go (by simp [hbx])
end
end K01

set_option Elab.async false
set_option linter.all false
set_option maxRecDepth 100000
set_option maxHeartbeats 4000000
namespace K01
open PySem PySem.Spec PyProof.Rows L2 LL
open C8 (pss_cut)
theorem filt_none (f : PyData → Bool) (ps : List PyData) (n : Nat) (h : n = ps.length) (ys : Nat → V) : decide (V.int ((((List.range n).filter fun i => !f (ps.getD i .none)).map ys).length : Nat) = V.int 0) = ps.all f := by
  subst h
  rw [List.length_map]
  by_cases ha : ps.all f = true
  · rw [ha]
    have e : (List.range ps.length).filter (fun i => !f (ps.getD i .none)) = [] := by
      rw [List.filter_eq_nil_iff]
      intro i hi
      have hi' : i < ps.length := List.mem_range.mp hi
      have : f ps[i] = true := List.all_eq_true.mp ha _ (List.getElem_mem hi')
      simp [List.getD_eq_getElem?_getD, hi', this]
    rw [e]
    rfl
  · have hf : ps.all f = false := by simpa using ha
    rw [hf]
    have : ¬ ((List.range ps.length).filter (fun i => !f (ps.getD i .none))).length = 0 := fun z => by
      apply ha
      rw [List.all_eq_true]
      intro p hp
      obtain ⟨i, hi, rfl⟩ := List.getElem_of_mem hp
      have e0 := List.length_eq_zero_iff.mp z
      rw [List.filter_eq_nil_iff] at e0
      have := e0 i (List.mem_range.mpr hi)
      simpa [List.getD_eq_getElem?_getD, hi] using this
    simp only [decide_eq_false_iff_not]
    intro z
    have := V.int.inj z
    omega
def fiveB (x : Str) : Bool := x = "no" || x = "and" || x = "or" || x = "if" || x = "box"
theorem five_items {x : Str} (h : fiveB x = true) : nItems x = some (if x = "no" then 1 else if x = "box" then 2 else 3) := by
  unfold fiveB at h
  simp only [Bool.or_eq_true, decide_eq_true_eq] at h
  rcases h with (((rfl | rfl) | rfl) | rfl) | rfl <;> decide +kernel
theorem no_items {x : Str} (h : fiveB x = false) (hl : ¬ x = "letter") : nItems x = none := by
  unfold fiveB at h
  simp only [Bool.or_eq_false_iff, decide_eq_false_iff_not] at h
  obtain ⟨⟨⟨⟨h1, h2⟩, h3⟩, h4⟩, h5⟩ := h
  unfold nItems
  rw [if_neg hl, if_neg h1, if_neg h2, if_neg h3, if_neg h4, if_neg h5]
theorem val_items (x : Str) : (valV (mergeK [] [((Sum.inr "no" : Key), V.int 1), (Sum.inr "box", V.int 2)]) (Sum.inr x)).getD (V.int 3) = V.int ((if x = "no" then 1 else if x = "box" then 2 else 3 : Nat) : Int) := by
  have e : mergeK [] [((Sum.inr "no" : Key), V.int 1), (Sum.inr "box", V.int 2)] = [((Sum.inr "no" : Key), V.int 1), (Sum.inr "box", V.int 2)] := by decide +kernel
  rw [e]
  unfold valV
  rw [List.find?_cons, List.find?_cons, List.find?_nil]
  by_cases h1 : x = "no"
  · subst h1
    rw [if_pos rfl]
    have : decide ((Sum.inr ("no" : Str) : Key) = Sum.inr ("no" : Str)) = true := by decide +kernel
    rw [this]
    rfl
  · have n1 : decide (((Sum.inr "no" : Key)) = Sum.inr x) = false := decide_eq_false fun z => h1 (Sum.inr.inj z).symm
    rw [if_neg h1, n1]
    by_cases h2 : x = "box"
    · subst h2
      rw [if_pos rfl]
      have : decide ((Sum.inr ("box" : Str) : Key) = Sum.inr ("box" : Str)) = true := by decide +kernel
      rw [this]
      rfl
    · have n2 : decide (((Sum.inr "box" : Key)) = Sum.inr x) = false := decide_eq_false fun z => h2 (Sum.inr.inj z).symm
      rw [if_neg h2, n2]
      rfl
section
variable {P : Program} {w : World} {K : PySem.W.Frag} {mg : Str → Option Value} {base : Heap}
theorem ok_law_is_node (A : All K mg w) : FnOk P w K mg base CX0 2 A.law_is_node.f A.law_is_node.fd ["value", "at", "boxed"] spIsNode := by
  refine A.law_is_node.F.ok sc_law_is_node (fun vs H Q E h => ?_) (fun cdv Ar outer s H vs Q E hr h => ?_)
  · obtain ⟨v, d, row, boxed, rfl, _⟩ := h
    rfl
  · obtain ⟨v, d, row, boxed, rfl, hv, q⟩ := h
    refine ⟨_, (pss_cons (ps_if (PW.pt (pw_or (pt_not (pt_val (pe_callB call_isi (by rfl) A.T.isinstance (by decide +kernel) (pa_cons (pv 0) (pa_cons (pe_bltn (v := .ty "tuple") (by rfl) A.T.tuple (by decide +kernel) rfl) pa_nil))))) (pw_or (pt_cmpR op_eq (pe_callB call_len_seq (by rfl) A.T.len PySem.boot_len (pa_cons (pv 0) pa_nil)) pe_int (nomark _)) (pw_or1 (pt_not (pt_val (pe_callB call_isi (by rfl) A.T.isinstance (by decide +kernel) (pa_cons (pe_ix ix_tup (pv 0) pe_int (fun _ _ => rfl)) (pa_cons (pe_bltn (v := .ty "str") (by rfl) A.T.str (by decide +kernel) rfl) pa_nil)))))))))
    (pss_one (ps_ret pe_bl))
    pss_nil)
  (pss_cons (ps_set (i := 3) sc_law_is_node.nd rfl (Or.inl rfl) (pe_ix ix_tup (pv 0) pe_int (fun _ _ => rfl)))
  (pss_cons (ps_if (pt_cmpR op_eq (pv 3) pe_str (nomark _))
    (pss_one (ps_ret (pe_and (pe_cmpR op_eq (pe_callB call_len_seq (by rfl) A.T.len PySem.boot_len (pa_cons (pv 0) pa_nil)) pe_int (nomark _)) (pe_one (pe_call (ok_law_number A) (hr.mono (by omega)) rfl A.law_number.m A.law_number.F.kp A.law_number.b .nil pass0 (pa_cons (pe_ix ix_tup (pv 0) pe_int (fun _ _ => rfl)) (pa_cons pe_int (pa_cons pe_int pa_nil))))))))
    pss_nil)
  (pss_cons (ps_if (PW.pt (pw_or (pt_cmpR op_notIn_seq (pv 3) (pe_tup (pa_cons pe_str (pa_cons pe_str (pa_cons pe_str (pa_cons pe_str (pa_cons pe_str pa_nil)))))) rfl) (pw_or (PW.pt (pw_and (pt_cmpR op_eq (pv 3) pe_str (nomark _)) (pw_and1 (pt_not (pt_val (pv 2)))))) (pw_or1 (pt_cmpR op_ne (pe_callB call_len_seq (by rfl) A.T.len PySem.boot_len (pa_cons (pv 0) pa_nil)) (pe_dget2 (hu_of hr) (pe_disp (pps_cons pe_str pe_int (pps_cons pe_str pe_int pps_nil)) (by rfl) (by rfl) (fun z => by cases z) (by decide)) (pv 3) pe_int ⟨rfl, rfl, rfl, rfl⟩) (nomark _))))))
    (pss_one (ps_ret pe_bl))
    pss_nil)
  (pss_one (ps_ret (pe_cmpR op_eq (pe_callB call_len_seq (by rfl) A.T.len PySem.boot_len (pa_cons (pe_lc (own := [("part", 4)]) (g := gName 4) rfl sc_law_is_node.nd (pi_tup (pe_slice sl_tup (pv 0) (po_some pe_int) po_none)) (blkOk_by (own := [("part", 4)]) (N := ["value", "at", "boxed", "word", "part"]) (sc := defScope s_law_is_node) (by decide +kernel)) (fun _ _ _ _ _ => pg_name (i := 4) sc_law_is_node.nd rfl (Or.inl rfl)) (fun _ _ _ _ _ => pts_one (pt_not (pt_val (pe_call (ok_law_number A) (hr.mono (by omega)) rfl A.law_number.m A.law_number.F.kp A.law_number.b .nil pass0 (pa_cons (pv 4) (pa_cons pe_int (pa_cons (pe_op op_sub (pv 1) pe_int) pa_nil))))))) (fun _ _ _ _ _ => (pv 4))) pa_nil)) pe_int (nomark _)))))))), ?_⟩
    have no : ¬ (∃ ds, d = .tuple ds) → kitD d "tuple" = false ∧ nodeB boxed row d = false := fun h => by
      cases d with
      | tuple ds => exact absurd ⟨ds, rfl⟩ h
      | _ => exact ⟨by simp [kitD, tyN], rfl⟩
    refine ⟨_, rfl, _, _, _, _, _, rfl, .ty _, hv.ty, k_tuple d, _, rfl, ?_⟩
    by_cases ht : ∃ ds, d = .tuple ds
    case neg =>
      obtain ⟨e1, e2⟩ := no ht
      refine iteY (by rw [e1]; rfl) (iteY rfl ?_)
      have q' := q H (Adv.refl _ _)
      rw [e2] at q'
      exact q'
    obtain ⟨ds, rfl⟩ := ht
    refine iteN (by simp [kitD, tyN]) ?_
    obtain ⟨a, vs, rfl, na, ha, hs⟩ := hv.tupE
    refine ⟨_, rfl, a, vs, rfl, .inr (SqT.of ha), rfl, _, rfl, ?_⟩
    cases ds with
    | nil =>
      have e0 : vs = [] := by unfold IsDs at hs; exact hs
      subst e0
      exact iteY rfl (iteY rfl (q H (Adv.refl _ _)))
    | cons d0 ps =>
      have hlen := hs.len
      unfold IsDs at hs
      obtain ⟨v0, rs, rfl, h0, hps⟩ := hs
      refine iteN (by simp [List.length_cons]; omega) ?_
      refine ⟨_, rfl, a, _, 0, v0, rfl, rfl, SqT.of ha, atI_nat (j := 0) rfl, _, _, _, _, _, rfl, .ty _, h0.ty, k_str d0, _, rfl, ?_⟩
      by_cases hw : ∃ w, d0 = .str w
      case neg =>
        have e1 : kitD d0 "str" = false := by
          cases d0 with
          | str x => exact absurd ⟨x, rfl⟩ hw
          | _ => simp [kitD, tyN]
        have e2 : nodeB boxed row (.tuple (d0 :: ps)) = false := by
          cases d0 with
          | str x => exact absurd ⟨x, rfl⟩ hw
          | _ => rfl
        refine iteY (by rw [e1]; rfl) ?_
        have q' := q H (Adv.refl _ _)
        rw [e2] at q'
        exact q'
      obtain ⟨wd, rfl⟩ := hw
      cases h0.strE
      refine iteN (by simp [kitD, tyN]) ?_
      refine ⟨_, rfl, a, _, 0, _, rfl, rfl, SqT.of ha, atI_nat (j := 0) rfl, ?_⟩
      have hl2 : rs.length = ps.length := hps.len
      have hnode : nodeB boxed row (.tuple (.str wd :: ps)) = (if nItems wd = some (ps.length + 1) then (if wd = "letter" then ps.all (isNum 0 7) else if wd = "box" && !boxed then false else ps.all (isNum 0 (row - 1))) else false) := rfl
      rw [hnode] at q
      -- word == "letter"
      refine ⟨_, rfl, rfl, _, rfl, ?_⟩
      by_cases hlet : wd = "letter"
      · subst hlet
        refine iteY (by simp) ?_
        have e : nItems "letter" = some 2 := by decide +kernel
        rw [e, if_pos rfl] at q
        refine ⟨_, rfl, a, _, rfl, .inr (SqT.of ha), rfl, _, rfl, ?_⟩
        by_cases h2 : ps.length = 1
        · rw [if_pos (by rw [h2])] at q
          refine iteY (by simp [hl2, h2]) ?_
          obtain ⟨p, rfl⟩ : ∃ p, ps = [p] := List.length_eq_one_iff.mp h2
          unfold IsDs at hps
          obtain ⟨v1, r1, rfl, h1, hn1⟩ := hps
          refine ⟨_, rfl, a, _, 1, v1, rfl, rfl, SqT.of ha, atI_nat (j := 1) rfl, v1, p, 0, 7, rfl, h1, ?_⟩
          have q' := q H (Adv.refl _ _)
          simpa using q'
        · rw [if_neg (fun z => h2 (by have := Option.some.inj z; omega))] at q
          exact iteN (by simp [hl2]; omega) (q H (Adv.refl _ _))
      rw [if_neg hlet] at q
      refine iteN (by simp [hlet]) ?_
      -- word not in the five
      refine ⟨_, rfl, by show 5 ≤ sizeLine; decide, fun p np => ⟨p, _, rfl, .inr (SqT.of upd_same), rfl, by decide, _, rfl, ?_⟩⟩
      have a1 : Adv [] H (upd H p (.tup [.str "no", .str "and", .str "or", .str "if", .str "box"])) := Adv.new np
      have e5 : inV (.str wd) [.str "no", .str "and", .str "or", .str "if", .str "box"] = fiveB wd := (inV_strs wd ["no", "and", "or", "if", "box"]).trans (by simp [fiveB, Bool.or_assoc])
      rw [if_pos (rfl : true = true), e5]
      cases h5 : fiveB wd with
      | false =>
        rw [no_items h5 hlet] at q
        exact iteY rfl (iteY rfl (q _ a1))
      | true =>
        rw [five_items h5] at q
        refine iteN rfl ?_
        refine ⟨_, rfl, rfl, _, rfl, ?_⟩
        have fals : (if some (if wd = "no" then 1 else if wd = "box" then 2 else 3) = some (ps.length + 1) then (if wd = "box" && !boxed then false else ps.all (isNum 0 (row - 1))) else false) = false → ∀ H', Adv [] H H' → Q (.bl false) H' := fun e H' a' => by
          have q' := q H' a'
          rw [e] at q'
          exact q'
        have go : (wd = "box" && !boxed) = false → ∀ H2, Adv [] H H2 → tSeq (tIfS (tTest (tOp rNe (tCB (fun xs H Q => ∃ p ys, xs = [.ref p] ∧ (SqL K H p ys ∨ SqT K H p ys) ∧ Q (.int ys.length) H) (tCons (tVar 0) tNil)) (tDGet2 (tDisp [(tC (.str "no"), tC (.int 1)), (tC (.str "box"), tC (.int 2))]) (tVar 3) (tC (.int 3))))) (tRet (tC (.bl false))) tNext)
            (tRet (tOp rEq (tCB (fun xs H Q => ∃ p ys, xs = [.ref p] ∧ (SqL K H p ys ∨ SqT K H p ys) ∧ Q (.int ys.length) H) (tCons (tLc (iTup K (tSl (rSlT K) (tVar 0) (tPart (tC (.int 1))) tNoPart)) (gName 4) (tNot (tB (tCall spIsBetween [] E0 (tCons (tVar 4) (tCons (tC (.int 0)) (tCons (tOp (rI0 fun i j => .int (i - j)) (tVar 1) (tC (.int 1))) tNil)))))) (tVar 4) [4]) tNil)) (tC (.int 0))))
            { nx := fun _ H' => Q .non H', rt := Q } [some (.ref a), some (.int row), some (.bl boxed), some (.str wd), none] H2 := fun hb H2 a2 => by
          have ha2 := a2.same _ _ ha
          refine ⟨_, rfl, a, _, rfl, .inr (SqT.of ha2), fun p2 np2 => ?_⟩
          refine ⟨upd_same, [((Sum.inr "no" : Key), V.int 1), (Sum.inr "box", V.int 2)], rfl, by decide, p2, rfl, .inl ⟨_, .inl upd_same⟩, _, rfl, _, DGet.k (k := Sum.inr wd) upd_same, ?_⟩
          rw [val_items]
          rw [upd_upd]
          have a3 : Adv [] H (upd H2 p2 (.dK (mergeK [] [((Sum.inr "no" : Key), V.int 1), (Sum.inr "box", V.int 2)]))) := a2.trans (Adv.new np2)
          refine ⟨rfl, _, rfl, ?_⟩
          by_cases hk : (if wd = "no" then 1 else if wd = "box" then 2 else 3) = ps.length + 1
          case neg =>
            refine iteY ?_ (fals (by rw [if_neg (fun z => hk (Option.some.inj z))]) _ a3)
            have : ¬ (V.int (((V.str wd :: rs).length : Nat) : Int) = V.int ((if wd = "no" then 1 else if wd = "box" then 2 else 3 : Nat) : Int)) := fun z => hk (by
              have z' := V.int.inj z
              rw [List.length_cons, hl2] at z'
              omega)
            rw [decide_eq_false this]
            rfl
          rw [if_pos (by rw [hk]), if_neg (by rw [hb]; decide)] at q
          refine iteN ?_ ?_
          · rw [hk, List.length_cons, hl2]
            simp
          have ha3 := a3.same _ _ ha
          refine ⟨_, rfl, 1, rfl, a, _, rfl, SqT.of ha3, ?_, fun p4 np4 => ?_⟩
          · intro z
            have z1 := z.1
            rw [show HT.sIx (V.str wd :: rs).length 0 (some 1) = min 1 (V.str wd :: rs).length from HT.sIx_nat _ 0 1, List.length_cons] at z1
            omega
          · rw [cut_from1]
            refine ⟨p4, rfl, ⟨_, SqT.of upd_same⟩, fun D nD => ?_⟩
            have aP := a3.trans (Adv.new (M := []) (o := .tup ((V.str wd :: rs).drop 1)) np4)
            refine lc_filtT (K := K) (a := p4) (xs := rs) (fun i => rs.getD i .non) (fun i => !isNum 0 (row - 1) (ps.getD i .none)) nD (SqT.of upd_same) ?_ ?_ ?_
            · have : ps.length ≤ 3 := by
                split at hk
                · omega
                · split at hk <;> omega
              omega
            · intro i x H' acc R R0 hx aH hD k k0
              have hip : i < ps.length := by rw [← hl2]; exact (List.getElem?_eq_some_iff.mp hx).1
              obtain ⟨dx, hdx, hisx⟩ := hps.getV hx
              have ed : ps.getD i .none = dx := by rw [List.getD_eq_getElem?_getD, hdx]; rfl
              have ex : rs.getD i .non = x := by rw [List.getD_eq_getElem?_getD, hx]; rfl
              refine ⟨rfl, x, rfl, _, rfl, row, 1, rfl, rfl, x, dx, 0, row - 1, rfl, (hisx.adv (aP.trans aH)), _, rfl, ?_⟩
              rw [ed] at k k0
              refine iteB (fun e1 => ?_) (fun e1 => k0 e1 H' hD aH)
              refine ⟨x, rfl, ?_⟩
              have k' := k e1 H' hD aH
              rw [ex] at k'
              exact k'
            · intro H' aH hD
              refine ⟨D, _, rfl, .inl (SqL.of hD), rfl, ?_⟩
              rw [filt_none (isNum 0 (row - 1)) ps rs.length hl2]
              exact q H' (aP.trans aH)
        by_cases hbx : wd = "box"
        · subst hbx
          refine iteY (by simp) ⟨_, rfl, _, rfl, ?_⟩
          cases boxed with
          | true => exact iteN rfl (go (by simp) _ a1)
          | false => exact iteY rfl (iteY rfl (fals (by simp) _ a1))
        · refine iteN (by simp [hbx]) ?_
          exact go (by simp [hbx]) _ a1
end
end K01

set_option Elab.async false
set_option linter.all false
set_option maxRecDepth 100000
set_option maxHeartbeats 4000000
namespace K01
open PySem PySem.Spec PyProof.Rows L2 LL
open C8 (pss_cut)
def resV : Option Int → V
  | some i => .int i
  | none => .non
theorem wrongF_at {most : Int} {boxed : Bool} {ds : List PyData} {i : Nat} {d : PyData} {seen : List (List Key)} (h : ds[i]? = some d) :
    wrongF most boxed i seen (ds.drop i) = if (i : Int) < most then (if nodeB boxed i d then (if memK (keysD d) seen = true then some (i : Int) else wrongF most boxed ((i + 1 : Nat) : Int) (seen ++ [keysD d]) (ds.drop (i + 1))) else some (i : Int)) else some (i : Int) := by
  obtain ⟨hi, e⟩ := List.getElem?_eq_some_iff.mp h
  rw [List.drop_eq_getElem_cons hi, e]
  rfl
theorem wrongF_end {most : Int} {boxed : Bool} {ds : List PyData} {seen : List (List Key)} {i : Nat} (h : i = ds.length) : wrongF most boxed i seen (ds.drop i) = none := by
  rw [h, List.drop_length]
  rfl
section
variable {P : Program} {w : World} {K : PySem.W.Frag} {mg : Str → Option Value} {base : Heap}
def spWrongRow : Sp := fun vs H Q _ => ∃ (v : V) (d : PyData) (most : Int) (boxed : Bool), vs = [v, .int most, .bl boxed] ∧ Is [] H d v ∧ 0 ≤ most ∧ (∀ ds, d = .list ds → ds.length ≤ 1000000) ∧ ∀ H', Adv [] H H' → Q (resV (wrongD most boxed d)) H'
theorem no_list {d : PyData} {most : Int} {boxed : Bool} (h : ¬ ∃ ds, d = .list ds) : kitD d "list" = false ∧ wrongD most boxed d = some (-1) := by
  cases d with
  | list ds => exact absurd ⟨ds, rfl⟩ h
  | _ => exact ⟨by simp [kitD, tyN], rfl⟩
theorem ok_wrong_row (A : All K mg w) : FnOk P w K mg base CX0 4 A.wrong_row.f A.wrong_row.fd ["value", "most", "boxed"] spWrongRow := by
  refine A.wrong_row.F.ok sc_wrong_row (fun vs H Q E h => ?_) (fun cdv Ar outer s H vs Q E hr h => ?_)
  · obtain ⟨v, d, most, boxed, rfl, _⟩ := h
    rfl
  · obtain ⟨v, d, most, boxed, rfl, hv, h0, hz, q⟩ := h
    refine ⟨_, (pss_cons (ps_if (pt_not (pt_val (pe_callB call_isi (by rfl) A.T.isinstance (by decide +kernel) (pa_cons (pv 0) (pa_cons (pe_bltn (v := .ty "list") (by rfl) A.T.list (by decide +kernel) rfl) pa_nil)))))
    (pss_one (ps_ret (pe_un un_neg pe_int)))
    pss_nil)
  (pss_cons (ps_set (i := 3) sc_wrong_row.nd rfl (Or.inl rfl) pe_dnewT)
  (pss_cons (ps_for PassesOwn.never rfl (pi_enum (by rfl) A.T.enumerate (pa_cons (pv 0) pa_nil)) (pg_tup rfl (pgs_cons (pg_name (i := 4) sc_wrong_row.nd rfl (Or.inl rfl)) (pgs_cons (pg_name (i := 5) sc_wrong_row.nd rfl (Or.inl rfl)) pgs_nil)))
    (pss_cons (ps_if (PW.pt (pw_or (pt_cmpR op_ge (pv 4) (pv 1) (nomark _)) (pw_or (pt_not (pt_val (pe_call (ok_is_node A) (hr.mono (by omega)) rfl A.is_node.m A.is_node.F.kp A.is_node.b .nil pass0 (pa_cons (pv 5) (pa_cons (pv 4) (pa_cons (pv 2) pa_nil)))))) (pw_or1 (pt_cmp (pc_din (hu_of hr) (pv 5) (pv 3)))))))
    (pss_one (ps_ret (pv 4)))
    pss_nil)
  (pss_one (ps_dput (hu_of hr) (pv 3) (pv 5) pe_bl rfl))))
  (pss_one (ps_ret pe_non))))), ?_⟩
    refine ⟨_, rfl, _, _, _, _, _, rfl, .ty _, hv.ty, k_list d, _, rfl, ?_⟩
    by_cases ht : ∃ ds, d = .list ds
    case neg =>
      obtain ⟨e1, e2⟩ := no_list (most := most) (boxed := boxed) ht
      refine iteY (by rw [e1]; rfl) ⟨1, rfl, ?_⟩
      have q' := q H (Adv.refl _ _)
      rw [e2] at q'
      exact q'
    obtain ⟨ds, rfl⟩ := ht
    refine iteN (by simp [kitD, tyN]) ?_
    obtain ⟨a, vs, rfl, na, ha, hs⟩ := hv.lstE
    have hl := hs.len
    have hsz := hz ds rfl
    intro d hd
    refine ⟨_, rfl, a, vs, rfl, SqL.of (by rw [upd_ne (ne_of_none ha hd)]; exact ha), ?_⟩
    refine for_enum (K := K) (a := a) (xs := vs) (fun i σ' H' => ∃ (v4 v5 : Option V) (kvs : List (List Key × V)), σ' = [some (.ref a), some (.int most), some (.bl boxed), some (.ref d), v4, v5] ∧ Adv [] H H' ∧ H' d = some (.dT kvs) ∧ kvs.length ≤ i ∧ wrongF most boxed 0 [] ds = wrongF most boxed i (kvs.map (·.1)) (ds.drop i))
      ⟨none, none, [], rfl, Adv.new hd, upd_same, Nat.le_refl _, rfl⟩ (fun i σ' H' _ ⟨_, _, _, _, a', _⟩ => a'.same _ _ ha) ?_ ?_
    · rintro i x T σ' H' hx ⟨v4, v5, kvs, rfl, a', hk, hkl, hw⟩ nT
      obtain ⟨dx, hdx, hisx⟩ := hs.getV hx
      rw [wrongF_at hdx] at hw
      have hi : i < ds.length := (List.getElem?_eq_some_iff.mp hdx).1
      refine ⟨T, _, rfl, SqT.of upd_same, rfl, _, _, rfl, _, _, rfl, rfl, ?_⟩
      have aT : Adv [] H (upd H' T (.tup [.int (i : Nat), x])) := a'.trans (Adv.new nT)
      have hkT : (upd H' T (.tup [.int (i : Nat), x])) d = some (.dT kvs) := (Adv.new (M := []) nT).same _ _ hk
      refine ⟨_, rfl, _, rfl, (i : Int), most, rfl, rfl, _, rfl, ?_⟩
      by_cases hm : (i : Int) < most
      case neg =>
        rw [if_neg hm] at hw
        refine iteY (decide_eq_true (by omega)) (iteY rfl ⟨_, rfl, ?_⟩)
        have q' := q _ aT
        rw [show wrongD most boxed (.list ds) = wrongF most boxed 0 [] ds from rfl, hw] at q'
        exact q'
      rw [if_pos hm] at hw
      refine iteN (decide_eq_false (by omega)) ?_
      refine ⟨x, rfl, _, rfl, _, rfl, x, dx, (i : Int), boxed, rfl, hisx.adv aT, fun H3 a3 => ⟨_, rfl, ?_⟩⟩
      cases hn : nodeB boxed i dx with
      | false =>
        rw [if_neg (by rw [hn]; decide)] at hw
        refine iteY rfl (iteY rfl ⟨_, rfl, ?_⟩)
        have q' := q _ (aT.trans a3)
        rw [show wrongD most boxed (.list ds) = wrongF most boxed 0 [] ds from rfl, hw] at q'
        exact q'
      | true =>
        rw [if_pos hn] at hw
        refine iteN rfl ?_
        have hk3 := a3.same _ _ hkT
        obtain ⟨b, rfl, nb, hb⟩ := node_keys (hisx.adv (aT.trans a3)) hn
        refine ⟨_, rfl, _, rfl, d, _, rfl, DGet.t hk3 hb, _, rfl, ?_⟩
        rw [val_mem]
        cases hm2 : memK (keysD dx) (kvs.map (·.1)) with
        | true =>
          rw [if_pos hm2] at hw
          refine iteY rfl ⟨_, rfl, ?_⟩
          have q' := q _ (aT.trans a3)
          rw [show wrongD most boxed (.list ds) = wrongF most boxed 0 [] ds from rfl, hw] at q'
          exact q'
        | false =>
          rw [if_neg (by rw [hm2]; decide)] at hw
          refine iteN rfl ?_
          refine ⟨_, rfl, _, rfl, d, _, rfl, DPut.t hk3 hb (by rw [sizeLine_eq]; omega), ?_⟩
          rw [put_new _ _ _ hm2]
          refine ⟨_, _, _, rfl, (aT.trans a3).mut hd, upd_same, by rw [List.length_append, List.length_singleton]; omega, ?_⟩
          rw [hw, List.map_append]
          rfl
    · rintro σ' H' ⟨v4, v5, kvs, rfl, a', hk, hkl, hw⟩
      rw [wrongF_end hl] at hw
      have q' := q _ a'
      rw [show wrongD most boxed (.list ds) = wrongF most boxed 0 [] ds from rfl, hw] at q'
      exact q'
theorem ok_law_wrong_row (A : All K mg w) : FnOk P w K mg base CX0 3 A.law_wrong_row.f A.law_wrong_row.fd ["value", "most", "boxed"] spWrongRow := by
  refine A.law_wrong_row.F.ok sc_law_wrong_row (fun vs H Q E h => ?_) (fun cdv Ar outer s H vs Q E hr h => ?_)
  · obtain ⟨v, d, most, boxed, rfl, _⟩ := h
    rfl
  · obtain ⟨v, d, most, boxed, rfl, hv, h0, hz, q⟩ := h
    refine ⟨_, (pss_cons (ps_if (pt_not (pt_val (pe_callB call_isi (by rfl) A.T.isinstance (by decide +kernel) (pa_cons (pv 0) (pa_cons (pe_bltn (v := .ty "list") (by rfl) A.T.list (by decide +kernel) rfl) pa_nil)))))
    (pss_one (ps_ret (pe_un un_neg pe_int)))
    pss_nil)
  (pss_cons (ps_set (i := 3) sc_law_wrong_row.nd rfl (Or.inl rfl) pe_dnewT)
  (pss_cons (ps_for PassesOwn.never rfl (pi_range1 rfl A.T.range (pa_cons (pe_callB call_len_seq (by rfl) A.T.len PySem.boot_len (pa_cons (pv 0) pa_nil)) pa_nil)) (pg_name (i := 4) sc_law_wrong_row.nd rfl (Or.inl rfl))
    (pss_cons (ps_if (PW.pt (pw_or (pt_cmpR op_eq (pv 4) (pv 1) (nomark _)) (pw_or (pt_not (pt_val (pe_call (ok_law_is_node A) (hr.mono (by omega)) rfl A.law_is_node.m A.law_is_node.F.kp A.law_is_node.b .nil pass0 (pa_cons (pe_ix ix_list (pv 0) (pv 4) (fun _ _ => rfl)) (pa_cons (pv 4) (pa_cons (pv 2) pa_nil)))))) (pw_or1 (pt_cmp (pc_din (hu_of hr) (pe_ix ix_list (pv 0) (pv 4) (fun _ _ => rfl)) (pv 3)))))))
    (pss_one (ps_ret (pv 4)))
    pss_nil)
  (pss_one (ps_dput (hu_of hr) (pv 3) (pe_ix ix_list (pv 0) (pv 4) (fun _ _ => rfl)) (pv 4) rfl))))
  (pss_one (ps_ret pe_non))))), ?_⟩
    refine ⟨_, rfl, _, _, _, _, _, rfl, .ty _, hv.ty, k_list d, _, rfl, ?_⟩
    by_cases ht : ∃ ds, d = .list ds
    case neg =>
      obtain ⟨e1, e2⟩ := no_list (most := most) (boxed := boxed) ht
      refine iteY (by rw [e1]; rfl) ⟨1, rfl, ?_⟩
      have q' := q H (Adv.refl _ _)
      rw [e2] at q'
      exact q'
    obtain ⟨ds, rfl⟩ := ht
    refine iteN (by simp [kitD, tyN]) ?_
    obtain ⟨a, vs, rfl, na, ha, hs⟩ := hv.lstE
    have hl := hs.len
    have hsz := hz ds rfl
    intro d hd
    have had : (upd H d (.dT [])) a = some (.lst vs) := by rw [upd_ne (ne_of_none ha hd)]; exact ha
    refine ⟨_, rfl, a, vs, rfl, .inl (SqL.of had), _, rfl, by omega, by omega, ?_⟩
    refine for_range (lo := 0) (n := (vs.length : Int).toNat) (fun i σ' H' => ∃ (v4 : Option V) (kvs : List (List Key × V)), σ' = [some (.ref a), some (.int most), some (.bl boxed), some (.ref d), v4] ∧ Adv [] H H' ∧ H' d = some (.dT kvs) ∧ kvs.length ≤ i ∧ (i : Int) ≤ most ∧ wrongF most boxed 0 [] ds = wrongF most boxed i (kvs.map (·.1)) (ds.drop i))
      ⟨none, [], rfl, Adv.new hd, upd_same, Nat.le_refl _, h0, rfl⟩ ?_ ?_
    · rintro i σ' H' hi ⟨v4, kvs, rfl, a', hk, hkl, him, hw⟩
      have hi2 : i < vs.length := by omega
      obtain ⟨dx, hdx, hisx⟩ := hs.getV (List.getElem?_eq_getElem hi2)
      rw [wrongF_at hdx] at hw
      have ha' := a'.same _ _ ha
      have e0 : (0 : Int) + (i : Int) = (i : Int) := by omega
      rw [e0]
      refine ⟨_, rfl, _, rfl, rfl, _, rfl, ?_⟩
      by_cases hm : (i : Int) < most
      case neg =>
        rw [if_neg hm] at hw
        have e1 : (i : Int) = most := by omega
        refine iteY (by rw [e1]; simp) (iteY rfl ⟨_, rfl, ?_⟩)
        have q' := q _ a'
        rw [show wrongD most boxed (.list ds) = wrongF most boxed 0 [] ds from rfl, hw] at q'
        exact q'
      rw [if_pos hm] at hw
      have ne1 : ¬ (i : Int) = most := by omega
      refine iteN (by simp [ne1]) ?_
      refine ⟨_, rfl, _, rfl, a, vs, (i : Int), _, rfl, rfl, SqL.of ha', atI_nat (List.getElem?_eq_getElem hi2), _, rfl, _, rfl, _, dx, (i : Int), boxed, rfl, hisx.adv a', fun H3 a3 => ⟨_, rfl, ?_⟩⟩
      cases hn : nodeB boxed i dx with
      | false =>
        rw [if_neg (by rw [hn]; decide)] at hw
        refine iteY rfl (iteY rfl ⟨_, rfl, ?_⟩)
        have q' := q _ (a'.trans a3)
        rw [show wrongD most boxed (.list ds) = wrongF most boxed 0 [] ds from rfl, hw] at q'
        exact q'
      | true =>
        rw [if_pos hn] at hw
        refine iteN rfl ?_
        have hk3 := a3.same _ _ hk
        have ha3 := a3.same _ _ ha'
        obtain ⟨b, eb, nb, hb⟩ := node_keys (hisx.adv (a'.trans a3)) hn
        refine ⟨_, rfl, _, rfl, a, vs, (i : Int), _, rfl, rfl, SqL.of ha3, atI_nat (List.getElem?_eq_getElem hi2), ?_⟩
        rw [eb]
        refine ⟨_, rfl, d, _, rfl, DGet.t hk3 hb, _, rfl, ?_⟩
        rw [val_mem]
        cases hm2 : memK (keysD dx) (kvs.map (·.1)) with
        | true =>
          rw [if_pos hm2] at hw
          refine iteY rfl ⟨_, rfl, ?_⟩
          have q' := q _ (a'.trans a3)
          rw [show wrongD most boxed (.list ds) = wrongF most boxed 0 [] ds from rfl, hw] at q'
          exact q'
        | false =>
          rw [if_neg (by rw [hm2]; decide)] at hw
          refine iteN rfl ?_
          refine ⟨_, rfl, _, rfl, _, rfl, _, rfl, a, vs, (i : Int), _, rfl, rfl, SqL.of ha3, atI_nat (List.getElem?_eq_getElem hi2), ?_⟩
          rw [eb]
          refine ⟨d, _, rfl, DPut.t hk3 hb (by rw [sizeLine_eq]; omega), ?_⟩
          rw [put_new _ _ _ hm2]
          refine ⟨_, _, rfl, (a'.trans a3).mut hd, upd_same, by rw [List.length_append, List.length_singleton]; omega, by omega, ?_⟩
          rw [hw, List.map_append]
          rfl
    · rintro σ' H' ⟨v4, kvs, rfl, a', hk, hkl, him, hw⟩
      rw [wrongF_end (show (vs.length : Int).toNat = ds.length by omega)] at hw
      have q' := q _ a'
      rw [show wrongD most boxed (.list ds) = wrongF most boxed 0 [] ds from rfl, hw] at q'
      exact q'
end
end K01

set_option Elab.async false
set_option linter.all false
set_option maxRecDepth 100000
set_option maxHeartbeats 4000000
namespace K01
open PySem PySem.Spec PyProof.Rows L2 LL
open C8 (pss_cut)
def prD (d : PyData) : PyData := .tuple [d, d]
section
variable {P : Program} {w : World} {K : PySem.W.Frag} {mg : Str → Option Value} {base : Heap}
def spSame : Sp := fun vs H Q _ => ∃ (v1 v2 : V) (d : PyData), vs = [v1, v2] ∧ Is [] H d v1 ∧ Is [] H d v2 ∧ sz d ≤ 1000000 ∧ ∀ H', Adv [] H H' → Q (.bl true) H'
theorem ok_law_same (A : All K mg w) : FnOk P w K mg base CX0 1 A.law_same.f A.law_same.fd ["actual", "due"] spSame := by
  refine A.law_same.F.ok sc_law_same (fun vs H Q E h => ?_) (fun cdv Ar outer s H vs Q E hr h => ?_)
  · obtain ⟨v1, v2, d, rfl, _⟩ := h
    rfl
  · obtain ⟨v1, v2, d0, rfl, h1, h2, hz, q⟩ := h
    refine ⟨_, (pss_cons (ps_set (i := 2) sc_law_same.nd rfl (Or.inl rfl) (pe_lst (pa_cons (pe_tup (pa_cons (pv 0) (pa_cons (pv 1) pa_nil))) pa_nil)))
  (pss_cons (ps_for PassesOwn.never rfl (pi_range1 rfl A.T.range (pa_cons pe_int pa_nil)) (pg_name (i := 3) sc_law_same.nd rfl (Or.inl rfl))
    (pss_cons (ps_if (pt_cmpR op_eq (pe_callB call_len_seq (by rfl) A.T.len PySem.boot_len (pa_cons (pv 2) pa_nil)) pe_int (nomark _))
    (pss_one (ps_ret pe_bl))
    pss_nil)
  (pss_cons (ps_asg (pe_bm0 PySem.F.plainAttrs_list PySem.F.slot_list_pop PySem.F.type_list_pop mt_pop (pv 2)) (pg_tup rfl (pgs_cons (pg_name (i := 4) sc_law_same.nd rfl (Or.inr rfl)) (pgs_cons (pg_name (i := 5) sc_law_same.nd rfl (Or.inr rfl)) pgs_nil))))
  (pss_one (ps_if (PW.pt (pw_or (pt_val (pe_callB call_isi (by rfl) A.T.isinstance (by decide +kernel) (pa_cons (pv 5) (pa_cons (pe_bltn (v := .ty "tuple") (by rfl) A.T.tuple (by decide +kernel) rfl) pa_nil)))) (pw_or1 (pt_val (pe_callB call_isi (by rfl) A.T.isinstance (by decide +kernel) (pa_cons (pv 5) (pa_cons (pe_bltn (v := .ty "list") (by rfl) A.T.list (by decide +kernel) rfl) pa_nil)))))))
    (pss_cons (ps_if (PW.pt (pw_or (pt_cmpR op_ne (pe_callB call_isi (by rfl) A.T.isinstance (by decide +kernel) (pa_cons (pv 5) (pa_cons (pe_bltn (v := .ty "tuple") (by rfl) A.T.tuple (by decide +kernel) rfl) pa_nil))) (pe_callB call_isi (by rfl) A.T.isinstance (by decide +kernel) (pa_cons (pv 4) (pa_cons (pe_bltn (v := .ty "tuple") (by rfl) A.T.tuple (by decide +kernel) rfl) pa_nil))) (nomark _)) (pw_or (pt_cmpR op_ne (pe_callB call_isi (by rfl) A.T.isinstance (by decide +kernel) (pa_cons (pv 5) (pa_cons (pe_bltn (v := .ty "list") (by rfl) A.T.list (by decide +kernel) rfl) pa_nil))) (pe_callB call_isi (by rfl) A.T.isinstance (by decide +kernel) (pa_cons (pv 4) (pa_cons (pe_bltn (v := .ty "list") (by rfl) A.T.list (by decide +kernel) rfl) pa_nil))) (nomark _)) (pw_or1 (pt_cmpR op_ne (pe_callB (call_or call_len_seq call_lenD) (by rfl) A.T.len PySem.boot_len (pa_cons (pv 4) pa_nil)) (pe_callB (call_or call_len_seq call_lenD) (by rfl) A.T.len PySem.boot_len (pa_cons (pv 5) pa_nil)) (nomark _))))))
    (pss_one (ps_ret pe_bl))
    pss_nil)
  (pss_one (ps_expr (pe_bm PySem.F.plainAttrs_list PySem.F.slot_list_extend PySem.F.type_list_extend mt_extend (pv 2) (pa_cons (pe_lc (own := [("at", 6)]) (g := gName 6) rfl sc_law_same.nd (pi_range1 rfl A.T.range (pa_cons (pe_callB (call_or call_len_seq call_lenD) (by rfl) A.T.len PySem.boot_len (pa_cons (pv 5) pa_nil)) pa_nil)) (blkOk_by (own := [("at", 6)]) (N := ["actual", "due", "left", "turn", "one", "other", "at", "key"]) (sc := defScope s_law_same) (by decide +kernel)) (fun _ _ _ _ _ => pg_name (i := 6) sc_law_same.nd rfl (Or.inl rfl)) (fun _ _ _ _ _ => pts_nil) (fun _ _ _ _ _ => (pe_tup (pa_cons (pe_ix (ix_any K rfl) (pv 4) (pv 6) (fun _ _ => rfl)) (pa_cons (pe_ix (ix_any K rfl) (pv 5) (pv 6) (fun _ _ => rfl)) pa_nil))))) pa_nil)))))
    (pss_one (ps_if (pt_val (pe_callB call_isi (by rfl) A.T.isinstance (by decide +kernel) (pa_cons (pv 5) (pa_cons (pe_bltn (v := .ty "dict") (by rfl) A.T.dict (by decide +kernel) rfl) pa_nil))))
    (pss_cons (ps_if (PW.pt (pw_or (pt_not (pt_val (pe_callB call_isi (by rfl) A.T.isinstance (by decide +kernel) (pa_cons (pv 4) (pa_cons (pe_bltn (v := .ty "dict") (by rfl) A.T.dict (by decide +kernel) rfl) pa_nil))))) (pw_or (pt_cmpR op_ne (pe_callB (call_or call_len_seq call_lenD) (by rfl) A.T.len PySem.boot_len (pa_cons (pv 4) pa_nil)) (pe_callB (call_or call_len_seq call_lenD) (by rfl) A.T.len PySem.boot_len (pa_cons (pv 5) pa_nil)) (nomark _)) (pw_or1 (pt_cmpR op_gt (pe_callB call_len_seq (by rfl) A.T.len PySem.boot_len (pa_cons (pe_lock (pe_lc (own := [("key", 7)]) (g := gName 7) rfl sc_law_same.nd (pi_keys (pv 5)) (blkOk_by (own := [("key", 7)]) (N := ["actual", "due", "left", "turn", "one", "other", "at", "key"]) (sc := defScope s_law_same) (by decide +kernel)) (fun _ _ _ _ _ => pg_name (i := 7) sc_law_same.nd rfl (Or.inl rfl)) (fun _ _ _ _ _ => pts_one pt_never) (fun _ _ _ _ _ => pe_never))) pa_nil)) pe_int (nomark _))))))
    (pss_one (ps_ret pe_bl))
    pss_nil)
  (pss_one (ps_expr (pe_bm PySem.F.plainAttrs_list PySem.F.slot_list_extend PySem.F.type_list_extend mt_extend (pv 2) (pa_cons (pe_lock (pe_lc (own := [("key", 7)]) (g := gName 7) rfl sc_law_same.nd (pi_keys (pv 5)) (blkOk_by (own := [("key", 7)]) (N := ["actual", "due", "left", "turn", "one", "other", "at", "key"]) (sc := defScope s_law_same) (by decide +kernel)) (fun _ _ _ _ _ => pg_name (i := 7) sc_law_same.nd rfl (Or.inl rfl)) (fun _ _ _ _ _ => pts_nil) (fun _ _ _ _ _ => pe_never))) pa_nil)))))
    (pss_one (ps_if (PW.pt (pw_or (pt_val (pe_callB call_isi (by rfl) A.T.isinstance (by decide +kernel) (pa_cons (pv 5) (pa_cons (pe_bltn (v := .ty "bool") (by rfl) A.T.bool (by decide +kernel) rfl) pa_nil)))) (pw_or1 (pt_val (pe_callB call_isi (by rfl) A.T.isinstance (by decide +kernel) (pa_cons (pv 5) (pa_cons (pe_bltn (v := .ty "str") (by rfl) A.T.str (by decide +kernel) rfl) pa_nil)))))))
    (pss_one (ps_if (PW.pt (pw_or (pt_cmpR op_ne (pe_callB call_isi (by rfl) A.T.isinstance (by decide +kernel) (pa_cons (pv 4) (pa_cons (pe_bltn (v := .ty "bool") (by rfl) A.T.bool (by decide +kernel) rfl) pa_nil))) (pe_callB call_isi (by rfl) A.T.isinstance (by decide +kernel) (pa_cons (pv 5) (pa_cons (pe_bltn (v := .ty "bool") (by rfl) A.T.bool (by decide +kernel) rfl) pa_nil))) (nomark _)) (pw_or (pt_cmpR op_ne (pe_callB call_isi (by rfl) A.T.isinstance (by decide +kernel) (pa_cons (pv 4) (pa_cons (pe_bltn (v := .ty "str") (by rfl) A.T.str (by decide +kernel) rfl) pa_nil))) (pe_callB call_isi (by rfl) A.T.isinstance (by decide +kernel) (pa_cons (pv 5) (pa_cons (pe_bltn (v := .ty "str") (by rfl) A.T.str (by decide +kernel) rfl) pa_nil))) (nomark _)) (pw_or1 (pt_cmpR op_ne (pv 4) (pv 5) (nomark _))))))
    (pss_one (ps_ret pe_bl))
    pss_nil))
    (pss_one (ps_if (pt_val (pe_callB call_isi (by rfl) A.T.isinstance (by decide +kernel) (pa_cons (pv 5) (pa_cons (pe_bltn (v := .ty "int") (by rfl) A.T.int (by decide +kernel) rfl) pa_nil))))
    (pss_one (ps_if (PW.pt (pw_or (pt_not (pt_val (pe_callB call_isi (by rfl) A.T.isinstance (by decide +kernel) (pa_cons (pv 4) (pa_cons (pe_bltn (v := .ty "int") (by rfl) A.T.int (by decide +kernel) rfl) pa_nil))))) (pw_or (pt_val (pe_callB call_isi (by rfl) A.T.isinstance (by decide +kernel) (pa_cons (pv 4) (pa_cons (pe_bltn (v := .ty "bool") (by rfl) A.T.bool (by decide +kernel) rfl) pa_nil)))) (pw_or1 (pt_cmpR op_ne (pv 4) (pv 5) (nomark _))))))
    (pss_one (ps_ret pe_bl))
    pss_nil))
    (pss_one (ps_if (pt_cmpR op_notN (pv 4) pe_non (nomark _))
    (pss_one (ps_ret pe_bl))
    pss_nil)))))))))))))
  (pss_one (ps_ret pe_bl)))), ?_⟩
    refine ⟨_, rfl, _, rfl, by show 2 ≤ sizeLine; decide, fun t nt => ⟨by show 1 ≤ sizeLine; decide, fun L nL => ?_⟩⟩
    have nL0 : H L = none := by
      by_cases e : L = t
      · rw [e]; exact nt
      · rw [upd_ne e] at nL; exact nL
    have ntL : t ≠ L := fun z => by rw [← z, upd_same] at nL; cases nL
    have aI : Adv [] H (upd (upd H t (.tup [v1, v2])) L (.lst [.ref t])) := (Adv.new nt).trans (Adv.new nL)
    refine ⟨2000000, rfl, by decide, by decide, for_range (lo := 0) (n := (2000000 : Int).toNat) (fun i σ' H' => ∃ (ds : List PyData) (vs : List V) (x3 x4 x5 : Option V), σ' = [some v1, some v2, some (.ref L), x3, x4, x5, none, none] ∧ Adv [] H H' ∧ H' L = some (.lst vs) ∧ IsDs [L] H' (ds.map prD) vs ∧ szL ds + i ≤ 1000000)
      ⟨[d0], [.ref t], none, none, none, rfl, aI, upd_same, ?_, ?_⟩ ?_ ?_⟩
    · have f1 := ((h1.fresh nL0).less (N := [L]) (by simp)).adv (aI.more (by simp))
      have f2 := ((h2.fresh nL0).less (N := [L]) (by simp)).adv (aI.more (by simp))
      exact IsDs.one (Is.tup (by rw [upd_ne ntL, upd_same]) (by simpa using ntL) (.cons f1 (IsDs.one f2)))
    · rw [szL_cons, szL_nil]
      omega
    · rintro i σ' H' hi ⟨ds, vs, x3, x4, x5, rfl, a', hL, hds, hsz⟩
      refine ⟨_, rfl, L, vs, rfl, .inl (SqL.of hL), rfl, _, rfl, ?_⟩
      rcases List.eq_nil_or_concat ds with rfl | ⟨ds', d, rfl⟩
      · have e0 : vs = [] := by unfold IsDs at hds; exact hds
        subst e0
        exact iteY rfl (q _ a')
      rw [List.concat_eq_append] at hds hsz
      rw [List.map_append] at hds
      obtain ⟨ws, v, rfl, hws, hv⟩ := IsDs.last (d := prD d) hds
      refine iteN (by simp; omega) ?_
      refine ⟨_, rfl, .inl ⟨rfl, _, SqL.of hL⟩, L, ws ++ [v], v, rfl, rfl, hL, by simp, ?_⟩
      rw [List.dropLast_concat]
      obtain ⟨tp, u1, u2, rfl, ntp, htp, hu1, hu2⟩ := hv.pair
      have aL : Adv [L] H' (upd H' L (.lst ws)) := Adv.set (by simp)
      have a2 : Adv [] H (upd H' L (.lst ws)) := a'.mut nL0
      have htp2 := aL _ _ ntp htp
      replace hu1 := hu1.adv aL
      replace hu2 := hu2.adv aL
      replace hws := hws.adv aL
      have hL2 : (upd H' L (.lst ws)) L = some (.lst ws) := upd_same
      have hwl := hws.len
      rw [szL_app, szL_cons, szL_nil] at hsz
      have szle : ∀ l : List PyData, l.length ≤ szL l := fun l => by
        induction l with
        | nil => exact Nat.zero_le _
        | cons c r ih =>
          rw [szL_cons, List.length_cons]
          have := sz_pos c
          omega
      have hdl := szle ds'
      rw [List.length_map] at hwl
      generalize upd H' L (.lst ws) = H2 at *
      have fin : ∀ (x3 x4 x5 : Option V) (H3 : Hp), Adv [] H2 H3 → ∃ (ds : List PyData) (vs : List V) (y3 y4 y5 : Option V), [some v1, some v2, some (.ref L), x3, x4, x5, none, none] = [some v1, some v2, some (.ref L), y3, y4, y5, none, none] ∧ Adv [] H H3 ∧ H3 L = some (.lst vs) ∧ IsDs [L] H3 (ds.map prD) vs ∧ szL ds + (i + 1) ≤ 1000000 := fun x3 x4 x5 H3 a3 =>
        ⟨ds', ws, x3, x4, x5, rfl, a2.trans a3, a3.same _ _ hL2, hws.adv (a3.more (by simp)), by have := sz_pos d; omega⟩
      refine ⟨tp, [u1, u2], rfl, SqT.of htp2, rfl, _, _, rfl, _, _, rfl, rfl, ?_⟩
      cases d with
      | list cs =>
        refine ⟨_, rfl, _, _, _, _, _, rfl, .ty _, hu2.ty, k_tuple _, _, rfl, ?_⟩
        refine iteN (by simp [kitD, tyN]) ?_
        refine ⟨_, rfl, _, _, _, _, _, rfl, .ty _, hu2.ty, k_list _, _, rfl, iteY (by simp [kitD, tyN]) ?_⟩
        obtain ⟨b1, r1, rfl, nb1, hb1, hr1⟩ := hu1.lstE
        obtain ⟨b2, r2, rfl, nb2, hb2, hr2⟩ := hu2.lstE
        have hl1 := hr1.len
        have hl2 := hr2.len
        have szc : sz (.list cs) = 1 + szL cs := by rw [sz]
        have hcl := szle cs
        refine ⟨_, rfl, _, _, _, _, _, rfl, .ty _, hu2.ty, k_tuple _, _, rfl, _, _, _, _, _, rfl, .ty _, hu1.ty, k_tuple _, rfl, _, rfl, iteN (by simp) ?_⟩
        refine ⟨_, rfl, _, _, _, _, _, rfl, .ty _, hu2.ty, k_list _, _, rfl, _, _, _, _, _, rfl, .ty _, hu1.ty, k_list _, rfl, _, rfl, iteN (by simp) ?_⟩
        refine ⟨_, rfl, .inl ⟨b1, r1, rfl, .inl (SqL.of hb1), _, rfl, .inl ⟨b2, r2, rfl, .inl (SqL.of hb2), rfl, _, rfl, iteN (by simp [hl1, hl2]) ?_⟩⟩⟩
        refine ⟨_, rfl, .inl ⟨rfl, _, SqL.of hL2⟩, _, rfl, .inl ⟨b2, r2, rfl, .inl (SqL.of hb2), (r2.length : Int), rfl, by omega, by omega, fun D nD => ?_⟩⟩
        refine lc_dataR (M := [L]) (n := (r2.length : Int).toNat) (cs.map prD) (by simp [hl2]) nD (by simp [hl2]; omega) ?_ ?_
        · intro j dj H3 acc R hj a3 hD k
          have hjl : j < cs.length := by
            have := (List.getElem?_eq_some_iff.mp hj).1
            simpa using this
          have e0 : (0 : Int) + (j : Nat) = (j : Int) := by omega
          rw [e0]
          obtain ⟨w1, hw1, iw1⟩ := hr1.get (List.getElem?_eq_getElem hjl)
          obtain ⟨w2, hw2, iw2⟩ := hr2.get (List.getElem?_eq_getElem hjl)
          have ed : prD cs[j] = dj := by simpa [hjl] using hj
          refine ⟨rfl, _, rfl, _, rfl, .inl ⟨b1, r1, (j : Int), w1, rfl, rfl, SqL.of (a3.same _ _ hb1), atI_nat hw1, _, rfl, _, rfl, .inl ⟨b2, r2, (j : Int), w2, rfl, rfl, SqL.of (a3.same _ _ hb2), atI_nat hw2, by show 2 ≤ sizeLine; decide, fun T nT => ?_⟩⟩⟩
          have nDT : T ≠ D := (ne_of_none hD nT).symm
          have nLT : T ≠ L := (ne_of_none (a3.same _ _ hL2) nT).symm
          refine k _ _ (by rw [upd_ne nDT.symm]; exact hD) (Adv.new nT) ?_
          rw [← ed]
          have aa : Adv [D, L] H2 (upd H3 T (.tup [w1, w2])) := (a3.more (by simp)).trans (Adv.new nT)
          have g1 : Is [D, L] H2 cs[j] w1 := iw1.fresh nD
          have g2 : Is [D, L] H2 cs[j] w2 := iw2.fresh nD
          exact Is.tup upd_same (by simp [nDT, nLT]) (.cons (g1.adv aa) (IsDs.one (g2.adv aa)))
        · intro H3 acc a3 hD hacc
          have hal := hacc.len
          rw [List.length_map] at hal
          have hL3 := a3.same _ _ hL2
          have nDL : D ≠ L := (ne_of_none hL2 nD).symm
          refine ⟨L, D, ws, acc, rfl, rfl, hL3, hD, by rw [sizeLine_eq]; omega, ?_⟩
          refine ⟨ds' ++ cs, ws ++ acc, _, _, _, rfl, (a2.trans a3).mut nL0, upd_same, ?_, ?_⟩
          · rw [List.map_append]
            exact ((hws.adv (a3.more (by simp))).adv (Adv.set (by simp))).app ((hacc.less (by simp)).adv (Adv.set (by simp)))
          · rw [szL_app]
            omega
      | tuple cs =>
        refine ⟨_, rfl, _, _, _, _, _, rfl, .ty _, hu2.ty, k_tuple _, _, rfl, ?_⟩
        refine iteY (by simp [kitD, tyN]) (iteY rfl ?_)
        obtain ⟨b1, r1, rfl, nb1, hb1, hr1⟩ := hu1.tupE
        obtain ⟨b2, r2, rfl, nb2, hb2, hr2⟩ := hu2.tupE
        have hl1 := hr1.len
        have hl2 := hr2.len
        have szc : sz (.tuple cs) = 1 + szL cs := by rw [sz]
        have hcl := szle cs
        refine ⟨_, rfl, _, _, _, _, _, rfl, .ty _, hu2.ty, k_tuple _, _, rfl, _, _, _, _, _, rfl, .ty _, hu1.ty, k_tuple _, rfl, _, rfl, iteN (by simp) ?_⟩
        refine ⟨_, rfl, _, _, _, _, _, rfl, .ty _, hu2.ty, k_list _, _, rfl, _, _, _, _, _, rfl, .ty _, hu1.ty, k_list _, rfl, _, rfl, iteN (by simp) ?_⟩
        refine ⟨_, rfl, .inl ⟨b1, r1, rfl, .inr (SqT.of hb1), _, rfl, .inl ⟨b2, r2, rfl, .inr (SqT.of hb2), rfl, _, rfl, iteN (by simp [hl1, hl2]) ?_⟩⟩⟩
        refine ⟨_, rfl, .inl ⟨rfl, _, SqL.of hL2⟩, _, rfl, .inl ⟨b2, r2, rfl, .inr (SqT.of hb2), (r2.length : Int), rfl, by omega, by omega, fun D nD => ?_⟩⟩
        refine lc_dataR (M := [L]) (n := (r2.length : Int).toNat) (cs.map prD) (by simp [hl2]) nD (by simp [hl2]; omega) ?_ ?_
        · intro j dj H3 acc R hj a3 hD k
          have hjl : j < cs.length := by
            have := (List.getElem?_eq_some_iff.mp hj).1
            simpa using this
          have e0 : (0 : Int) + (j : Nat) = (j : Int) := by omega
          rw [e0]
          obtain ⟨w1, hw1, iw1⟩ := hr1.get (List.getElem?_eq_getElem hjl)
          obtain ⟨w2, hw2, iw2⟩ := hr2.get (List.getElem?_eq_getElem hjl)
          have ed : prD cs[j] = dj := by simpa [hjl] using hj
          refine ⟨rfl, _, rfl, _, rfl, .inr ⟨b1, r1, (j : Int), w1, rfl, rfl, SqT.of (a3.same _ _ hb1), atI_nat hw1, _, rfl, _, rfl, .inr ⟨b2, r2, (j : Int), w2, rfl, rfl, SqT.of (a3.same _ _ hb2), atI_nat hw2, by show 2 ≤ sizeLine; decide, fun T nT => ?_⟩⟩⟩
          have nDT : T ≠ D := (ne_of_none hD nT).symm
          have nLT : T ≠ L := (ne_of_none (a3.same _ _ hL2) nT).symm
          refine k _ _ (by rw [upd_ne nDT.symm]; exact hD) (Adv.new nT) ?_
          rw [← ed]
          have aa : Adv [D, L] H2 (upd H3 T (.tup [w1, w2])) := (a3.more (by simp)).trans (Adv.new nT)
          have g1 : Is [D, L] H2 cs[j] w1 := iw1.fresh nD
          have g2 : Is [D, L] H2 cs[j] w2 := iw2.fresh nD
          exact Is.tup upd_same (by simp [nDT, nLT]) (.cons (g1.adv aa) (IsDs.one (g2.adv aa)))
        · intro H3 acc a3 hD hacc
          have hal := hacc.len
          rw [List.length_map] at hal
          have hL3 := a3.same _ _ hL2
          have nDL : D ≠ L := (ne_of_none hL2 nD).symm
          refine ⟨L, D, ws, acc, rfl, rfl, hL3, hD, by rw [sizeLine_eq]; omega, ?_⟩
          refine ⟨ds' ++ cs, ws ++ acc, _, _, _, rfl, (a2.trans a3).mut nL0, upd_same, ?_, ?_⟩
          · rw [List.map_append]
            exact ((hws.adv (a3.more (by simp))).adv (Adv.set (by simp))).app ((hacc.less (by simp)).adv (Adv.set (by simp)))
          · rw [szL_app]
            omega
      | dict kvs =>
        refine ⟨_, rfl, _, _, _, _, _, rfl, .ty _, hu2.ty, k_tuple _, _, rfl, iteN (by simp [kitD, tyN]) ?_⟩
        refine ⟨_, rfl, _, _, _, _, _, rfl, .ty _, hu2.ty, k_list _, _, rfl, iteN (by simp [kitD, tyN]) ?_⟩
        refine ⟨_, rfl, _, _, _, _, _, rfl, .ty _, hu2.ty, k_dict _, _, rfl, iteY (by simp [kitD, tyN]) ?_⟩
        obtain ⟨rfl, b1, rfl, nb1, hb1⟩ := hu1.dicE
        obtain ⟨_, b2, rfl, nb2, hb2⟩ := hu2.dicE
        refine ⟨_, rfl, _, _, _, _, _, rfl, .ty _, hu1.ty, k_dict _, _, rfl, iteN (by simp [kitD, tyN]) ?_⟩
        refine ⟨_, rfl, .inr ⟨b1, [], rfl, hb1, _, rfl, .inr ⟨b2, [], rfl, hb2, rfl, _, rfl, iteN (by simp) ?_⟩⟩⟩
        refine ⟨b2, .dK [], hb2, trivial, fun od => ?_⟩
        refine ⟨_, rfl, b2, od, rfl, .inl ⟨[], upd_same, fun D nD => ?_⟩⟩
        have nDb : b2 ≠ D := fun z => by rw [← z, upd_same] at nD; cases nD
        have nD2 : H2 D = none := by rw [upd_ne nDb.symm] at nD; exact nD
        refine lc_keys0 (d := b2) (o := od) upd_same nD ?_
        refine ⟨by rw [upd_ne nDb]; exact upd_same, ?_⟩
        have a3 : Adv [] H2 (upd (upd (upd H2 b2 (.frz od (.dK []))) D (.lst [])) b2 (.dK [])) := fun b o _ e => by
          by_cases eb : b = b2
          · rw [eb, upd_same, ← hb2, ← eb, e]
          · rw [upd_ne eb, upd_ne (ne_of_none e nD2), upd_ne eb, e]
        have hD3 : (upd (upd (upd H2 b2 (.frz od (.dK []))) D (.lst [])) b2 (.dK [])) D = some (.lst []) := by rw [upd_ne nDb.symm, upd_same]
        refine ⟨D, [], rfl, .inl (SqL.of hD3), _, _, rfl, rfl, _, rfl, iteN (by decide) ?_⟩
        generalize (upd (upd (upd H2 b2 (.frz od (.dK []))) D (.lst [])) b2 (.dK [])) = H3 at *
        have hb3 := a3.same _ _ hb2
        have hL3 := a3.same _ _ hL2
        refine ⟨_, rfl, .inl ⟨rfl, _, SqL.of hL3⟩, b2, .dK [], hb3, trivial, fun od => ?_⟩
        refine ⟨_, rfl, b2, od, rfl, .inl ⟨[], upd_same, fun D nD => ?_⟩⟩
        have nDb : b2 ≠ D := fun z => by rw [← z, upd_same] at nD; cases nD
        have nD3 : H3 D = none := by rw [upd_ne nDb.symm] at nD; exact nD
        refine lc_keys0 (d := b2) (o := od) upd_same nD ?_
        refine ⟨by rw [upd_ne nDb]; exact upd_same, ?_⟩
        have a4 : Adv [] H3 (upd (upd (upd H3 b2 (.frz od (.dK []))) D (.lst [])) b2 (.dK [])) := fun b o _ e => by
          by_cases eb : b = b2
          · rw [eb, upd_same, ← hb3, ← eb, e]
          · rw [upd_ne eb, upd_ne (ne_of_none e nD3), upd_ne eb, e]
        have hD4 : (upd (upd (upd H3 b2 (.frz od (.dK []))) D (.lst [])) b2 (.dK [])) D = some (.lst []) := by rw [upd_ne nDb.symm, upd_same]
        generalize (upd (upd (upd H3 b2 (.frz od (.dK []))) D (.lst [])) b2 (.dK [])) = H4 at *
        have hL4 := a4.same _ _ hL3
        refine ⟨L, D, ws, [], rfl, rfl, hL4, hD4, by rw [sizeLine_eq, List.length_nil]; omega, ?_⟩
        refine ⟨ds', ws, _, _, _, rfl, ((a2.trans a3).trans a4).mut nL0, by rw [upd_same, List.append_nil], ?_, by have := sz_pos (.dict []); omega⟩
        exact ((hws.adv (a3.more (by simp))).adv (a4.more (by simp))).adv (Adv.set (by simp))
      | bool b =>
        refine ⟨_, rfl, _, _, _, _, _, rfl, .ty _, hu2.ty, k_tuple _, _, rfl, iteN (by simp [kitD, tyN]) ?_⟩
        refine ⟨_, rfl, _, _, _, _, _, rfl, .ty _, hu2.ty, k_list _, _, rfl, iteN (by simp [kitD, tyN]) ?_⟩
        refine ⟨_, rfl, _, _, _, _, _, rfl, .ty _, hu2.ty, k_dict _, _, rfl, iteN (by simp [kitD, tyN]) ?_⟩
        refine ⟨_, rfl, _, _, _, _, _, rfl, .ty _, hu2.ty, k_bool _, _, rfl, iteY (by simp [kitD, tyN]) (iteY rfl ?_)⟩
        refine ⟨_, rfl, _, _, _, _, _, rfl, .ty _, hu1.ty, k_bool _, _, rfl, _, _, _, _, _, rfl, .ty _, hu2.ty, k_bool _, rfl, _, rfl, iteN (by simp) ?_⟩
        refine ⟨_, rfl, _, _, _, _, _, rfl, .ty _, hu1.ty, k_str _, _, rfl, _, _, _, _, _, rfl, .ty _, hu2.ty, k_str _, rfl, _, rfl, iteN (by simp) ?_⟩
        cases hu1.blE
        cases hu2.blE
        exact ⟨_, rfl, _, rfl, rfl, _, rfl, iteN (by simp) (fin _ _ _ _ (Adv.refl _ _))⟩
      | str x =>
        refine ⟨_, rfl, _, _, _, _, _, rfl, .ty _, hu2.ty, k_tuple _, _, rfl, iteN (by simp [kitD, tyN]) ?_⟩
        refine ⟨_, rfl, _, _, _, _, _, rfl, .ty _, hu2.ty, k_list _, _, rfl, iteN (by simp [kitD, tyN]) ?_⟩
        refine ⟨_, rfl, _, _, _, _, _, rfl, .ty _, hu2.ty, k_dict _, _, rfl, iteN (by simp [kitD, tyN]) ?_⟩
        refine ⟨_, rfl, _, _, _, _, _, rfl, .ty _, hu2.ty, k_bool _, _, rfl, iteN (by simp [kitD, tyN]) ?_⟩
        refine ⟨_, rfl, _, _, _, _, _, rfl, .ty _, hu2.ty, k_str _, _, rfl, iteY (by simp [kitD, tyN]) ?_⟩
        refine ⟨_, rfl, _, _, _, _, _, rfl, .ty _, hu1.ty, k_bool _, _, rfl, _, _, _, _, _, rfl, .ty _, hu2.ty, k_bool _, rfl, _, rfl, iteN (by simp) ?_⟩
        refine ⟨_, rfl, _, _, _, _, _, rfl, .ty _, hu1.ty, k_str _, _, rfl, _, _, _, _, _, rfl, .ty _, hu2.ty, k_str _, rfl, _, rfl, iteN (by simp) ?_⟩
        cases hu1.strE
        cases hu2.strE
        exact ⟨_, rfl, _, rfl, rfl, _, rfl, iteN (by simp) (fin _ _ _ _ (Adv.refl _ _))⟩
      | int n =>
        refine ⟨_, rfl, _, _, _, _, _, rfl, .ty _, hu2.ty, k_tuple _, _, rfl, iteN (by simp [kitD, tyN]) ?_⟩
        refine ⟨_, rfl, _, _, _, _, _, rfl, .ty _, hu2.ty, k_list _, _, rfl, iteN (by simp [kitD, tyN]) ?_⟩
        refine ⟨_, rfl, _, _, _, _, _, rfl, .ty _, hu2.ty, k_dict _, _, rfl, iteN (by simp [kitD, tyN]) ?_⟩
        refine ⟨_, rfl, _, _, _, _, _, rfl, .ty _, hu2.ty, k_bool _, _, rfl, iteN (by simp [kitD, tyN]) ?_⟩
        refine ⟨_, rfl, _, _, _, _, _, rfl, .ty _, hu2.ty, k_str _, _, rfl, iteN (by simp [kitD, tyN]) ?_⟩
        refine ⟨_, rfl, _, _, _, _, _, rfl, .ty _, hu2.ty, k_int _, _, rfl, iteY (by simp [kitD, tyN]) ?_⟩
        refine ⟨_, rfl, _, _, _, _, _, rfl, .ty _, hu1.ty, k_int _, _, rfl, iteN (by simp [kitD, tyN]) ?_⟩
        refine ⟨_, rfl, _, _, _, _, _, rfl, .ty _, hu1.ty, k_bool _, _, rfl, iteN (by simp [kitD, tyN]) ?_⟩
        cases hu1.intE
        cases hu2.intE
        exact ⟨_, rfl, _, rfl, rfl, _, rfl, iteN (by simp) (fin _ _ _ _ (Adv.refl _ _))⟩
      | none =>
        refine ⟨_, rfl, _, _, _, _, _, rfl, .ty _, hu2.ty, k_tuple _, _, rfl, iteN (by simp [kitD, tyN]) ?_⟩
        refine ⟨_, rfl, _, _, _, _, _, rfl, .ty _, hu2.ty, k_list _, _, rfl, iteN (by simp [kitD, tyN]) ?_⟩
        refine ⟨_, rfl, _, _, _, _, _, rfl, .ty _, hu2.ty, k_dict _, _, rfl, iteN (by simp [kitD, tyN]) ?_⟩
        refine ⟨_, rfl, _, _, _, _, _, rfl, .ty _, hu2.ty, k_bool _, _, rfl, iteN (by simp [kitD, tyN]) ?_⟩
        refine ⟨_, rfl, _, _, _, _, _, rfl, .ty _, hu2.ty, k_str _, _, rfl, iteN (by simp [kitD, tyN]) ?_⟩
        refine ⟨_, rfl, _, _, _, _, _, rfl, .ty _, hu2.ty, k_int _, _, rfl, iteN (by simp [kitD, tyN]) ?_⟩
        cases hu1.nonE
        cases hu2.nonE
        exact ⟨_, rfl, rfl, _, rfl, iteN (by simp) (fin _ _ _ _ (Adv.refl _ _))⟩
    · rintro σ' H' ⟨ds, vs, x3, x4, x5, rfl, a', hL, hds, hsz⟩
      have : (2000000 : Int).toNat = 2000000 := rfl
      omega
end
end K01

set_option Elab.async false
set_option linter.all false
set_option maxRecDepth 100000
set_option maxHeartbeats 4000000
namespace K01
open PySem PySem.Spec PyProof.Rows L2 LL
open C8 (pss_cut)
section
variable {P : Program} {w : World} {K : PySem.W.Frag} {mg : Str → Option Value} {base : Heap}
def spCopy (n : Nat) : Sp := fun vs H Q _ => ∃ (v : V) (d : PyData) (M : List Addr), vs = [v] ∧ (∀ b ∈ M, H b ≠ none) ∧ Is M H d v ∧ dep d ≤ n ∧ sz d ≤ 1000000 ∧ ∀ v' H', Is M H' d v' → Adv [] H H' → Q v' H'
theorem szL_len : ∀ l : List PyData, l.length ≤ szL l
  | [] => Nat.zero_le _
  | c :: r => by
    rw [szL_cons, List.length_cons]
    have := sz_pos c
    have := szL_len r
    omega
theorem sz_mem : ∀ {ds : List PyData} {d : PyData}, d ∈ ds → sz d ≤ szL ds
  | c :: ds, d, h => by
    rw [szL_cons]
    rcases List.mem_cons.mp h with e | h
    · rw [e]; omega
    · have := sz_mem h
      omega
theorem copy_0 (A : All K mg w) : FnOk P w K mg base CX0 1 A.law_copy.f A.law_copy.fd ["value"] (spCopy 0) := by
  refine A.law_copy.F.ok sc_law_copy (fun vs H Q E h => ?_) (fun cdv Ar outer s H vs Q E hr h => ?_)
  · obtain ⟨v, d, M, rfl, _⟩ := h
    rfl
  · obtain ⟨v, d, M, rfl, hM, hv, hn, hz, q⟩ := h
    refine ⟨_, (pss_cons (ps_if (pt_val (pe_callB call_isi (by rfl) A.T.isinstance (by decide +kernel) (pa_cons (pv 0) (pa_cons (pe_bltn (v := .ty "dict") (by rfl) A.T.dict (by decide +kernel) rfl) pa_nil))))
    (pss_cons (ps_set (i := 1) sc_law_copy.nd rfl (Or.inl rfl) pe_dnewK)
  (pss_cons (ps_lock (ps_for PassesOwn.never rfl (pi_keys (pv 0)) (pg_name (i := 2) sc_law_copy.nd rfl (Or.inl rfl)) pss_never))
  (pss_one (ps_ret (pv 1)))))
    pss_nil)
  (pss_cons (ps_if (pt_val (pe_callB call_isi (by rfl) A.T.isinstance (by decide +kernel) (pa_cons (pv 0) (pa_cons (pe_bltn (v := .ty "list") (by rfl) A.T.list (by decide +kernel) rfl) pa_nil))))
    (pss_one (ps_ret (pe_lc (own := [("item", 3)]) (g := gName 3) rfl sc_law_copy.nd (pi_list (pv 0)) (blkOk_by (own := [("item", 3)]) (N := ["value", "found", "key", "item"]) (sc := defScope s_law_copy) (by decide +kernel)) (fun _ _ _ _ _ => pg_name (i := 3) sc_law_copy.nd rfl (Or.inl rfl)) (fun _ _ _ _ _ => pts_nil) (fun _ _ _ _ _ => pe_never))))
    pss_nil)
  (pss_cons (ps_if (pt_val (pe_callB call_isi (by rfl) A.T.isinstance (by decide +kernel) (pa_cons (pv 0) (pa_cons (pe_bltn (v := .ty "tuple") (by rfl) A.T.tuple (by decide +kernel) rfl) pa_nil))))
    (pss_one (ps_ret (pe_callTy call_tuple_of (by rfl) A.T.tuple (by decide +kernel) (pa_cons (pe_lc (own := [("item", 3)]) (g := gName 3) rfl sc_law_copy.nd (pi_tup (pv 0)) (blkOk_by (own := [("item", 3)]) (N := ["value", "found", "key", "item"]) (sc := defScope s_law_copy) (by decide +kernel)) (fun _ _ _ _ _ => pg_name (i := 3) sc_law_copy.nd rfl (Or.inl rfl)) (fun _ _ _ _ _ => pts_nil) (fun _ _ _ _ _ => pe_never)) pa_nil))))
    pss_nil)
  (pss_one (ps_ret (pv 0)))))), ?_⟩
    refine ⟨_, rfl, _, _, _, _, _, rfl, .ty _, hv.ty, k_dict _, _, rfl, ?_⟩
    cases d with
    | dict kvs =>
      refine iteY (by simp [kitD, tyN]) ?_
      obtain ⟨rfl, b, rfl, nb, hb⟩ := hv.dicE
      intro f nf
      have nbf : b ≠ f := ne_of_none hb nf
      refine ⟨b, .dK [], by rw [upd_ne nbf]; exact hb, trivial, fun od => ?_⟩
      refine ⟨_, rfl, b, od, rfl, .inl ⟨[], upd_same, ?_⟩⟩
      refine for_keys0 (d := b) (o := od) upd_same ?_
      refine ⟨upd_same, ?_⟩
      have hf : (upd (upd (upd H f (.dK [])) b (.frz od (.dK []))) b (.dK [])) f = some (.dK []) := by rw [upd_ne nbf.symm, upd_ne nbf.symm, upd_same]
      refine ⟨_, rfl, q _ _ (Is.dic hf (not_mem_new hM nf)) fun c o _ e => ?_⟩
      by_cases ec : c = b
      · rw [ec, upd_same, ← hb, ← ec, e]
      · rw [upd_ne ec, upd_ne ec, upd_ne (ne_of_none e nf), e]
    | list ds =>
      refine iteN (by simp [kitD, tyN]) ?_
      refine ⟨_, rfl, _, _, _, _, _, rfl, .ty _, hv.ty, k_list _, _, rfl, iteY (by simp [kitD, tyN]) ?_⟩
      obtain ⟨b, r, rfl, nb, hb, hr1⟩ := hv.lstE
      have hl := hr1.len
      have hdd : dep (.list ds) = 1 + depL ds := by rw [dep]
      have hss : sz (.list ds) = 1 + szL ds := by rw [sz]
      have hlen := szL_len ds
      omega
    | tuple ds =>
      refine iteN (by simp [kitD, tyN]) ?_
      refine ⟨_, rfl, _, _, _, _, _, rfl, .ty _, hv.ty, k_list _, _, rfl, iteN (by simp [kitD, tyN]) ?_⟩
      refine ⟨_, rfl, _, _, _, _, _, rfl, .ty _, hv.ty, k_tuple _, _, rfl, iteY (by simp [kitD, tyN]) ?_⟩
      obtain ⟨b, r, rfl, nb, hb, hr1⟩ := hv.tupE
      have hl := hr1.len
      have hdd : dep (.tuple ds) = 1 + depL ds := by rw [dep]
      have hss : sz (.tuple ds) = 1 + szL ds := by rw [sz]
      have hlen := szL_len ds
      omega
    | none =>
      refine iteN (by simp [kitD, tyN]) ?_
      refine ⟨_, rfl, _, _, _, _, _, rfl, .ty _, hv.ty, k_list _, _, rfl, iteN (by simp [kitD, tyN]) ?_⟩
      refine ⟨_, rfl, _, _, _, _, _, rfl, .ty _, hv.ty, k_tuple _, _, rfl, iteN (by simp [kitD, tyN]) ?_⟩
      exact ⟨_, rfl, q _ _ hv (Adv.refl _ _)⟩
    | bool _ =>
      refine iteN (by simp [kitD, tyN]) ?_
      refine ⟨_, rfl, _, _, _, _, _, rfl, .ty _, hv.ty, k_list _, _, rfl, iteN (by simp [kitD, tyN]) ?_⟩
      refine ⟨_, rfl, _, _, _, _, _, rfl, .ty _, hv.ty, k_tuple _, _, rfl, iteN (by simp [kitD, tyN]) ?_⟩
      exact ⟨_, rfl, q _ _ hv (Adv.refl _ _)⟩
    | int _ =>
      refine iteN (by simp [kitD, tyN]) ?_
      refine ⟨_, rfl, _, _, _, _, _, rfl, .ty _, hv.ty, k_list _, _, rfl, iteN (by simp [kitD, tyN]) ?_⟩
      refine ⟨_, rfl, _, _, _, _, _, rfl, .ty _, hv.ty, k_tuple _, _, rfl, iteN (by simp [kitD, tyN]) ?_⟩
      exact ⟨_, rfl, q _ _ hv (Adv.refl _ _)⟩
    | str _ =>
      refine iteN (by simp [kitD, tyN]) ?_
      refine ⟨_, rfl, _, _, _, _, _, rfl, .ty _, hv.ty, k_list _, _, rfl, iteN (by simp [kitD, tyN]) ?_⟩
      refine ⟨_, rfl, _, _, _, _, _, rfl, .ty _, hv.ty, k_tuple _, _, rfl, iteN (by simp [kitD, tyN]) ?_⟩
      exact ⟨_, rfl, q _ _ hv (Adv.refl _ _)⟩
theorem copy_s (A : All K mg w) {n : Nat} (G : FnOk P w K mg base CX0 (n + 1) A.law_copy.f A.law_copy.fd ["value"] (spCopy n)) : FnOk P w K mg base CX0 (n + 2) A.law_copy.f A.law_copy.fd ["value"] (spCopy (n + 1)) := by
  refine A.law_copy.F.ok sc_law_copy (fun vs H Q E h => ?_) (fun cdv Ar outer s H vs Q E hr h => ?_)
  · obtain ⟨v, d, M, rfl, _⟩ := h
    rfl
  · obtain ⟨v, d, M, rfl, hM, hv, hn, hz, q⟩ := h
    refine ⟨_, (pss_cons (ps_if (pt_val (pe_callB call_isi (by rfl) A.T.isinstance (by decide +kernel) (pa_cons (pv 0) (pa_cons (pe_bltn (v := .ty "dict") (by rfl) A.T.dict (by decide +kernel) rfl) pa_nil))))
    (pss_cons (ps_set (i := 1) sc_law_copy.nd rfl (Or.inl rfl) pe_dnewK)
  (pss_cons (ps_lock (ps_for PassesOwn.never rfl (pi_keys (pv 0)) (pg_name (i := 2) sc_law_copy.nd rfl (Or.inl rfl)) pss_never))
  (pss_one (ps_ret (pv 1)))))
    pss_nil)
  (pss_cons (ps_if (pt_val (pe_callB call_isi (by rfl) A.T.isinstance (by decide +kernel) (pa_cons (pv 0) (pa_cons (pe_bltn (v := .ty "list") (by rfl) A.T.list (by decide +kernel) rfl) pa_nil))))
    (pss_one (ps_ret (pe_lc (own := [("item", 3)]) (g := gName 3) rfl sc_law_copy.nd (pi_list (pv 0)) (blkOk_by (own := [("item", 3)]) (N := ["value", "found", "key", "item"]) (sc := defScope s_law_copy) (by decide +kernel)) (fun _ _ _ _ _ => pg_name (i := 3) sc_law_copy.nd rfl (Or.inl rfl)) (fun _ _ _ _ _ => pts_nil) (fun _ _ _ _ _ => (pe_call G hr rfl A.law_copy.m A.law_copy.F.kp A.law_copy.b .nil pass0 (pa_cons (pv 3) pa_nil))))))
    pss_nil)
  (pss_cons (ps_if (pt_val (pe_callB call_isi (by rfl) A.T.isinstance (by decide +kernel) (pa_cons (pv 0) (pa_cons (pe_bltn (v := .ty "tuple") (by rfl) A.T.tuple (by decide +kernel) rfl) pa_nil))))
    (pss_one (ps_ret (pe_callTy call_tuple_of (by rfl) A.T.tuple (by decide +kernel) (pa_cons (pe_lc (own := [("item", 3)]) (g := gName 3) rfl sc_law_copy.nd (pi_tup (pv 0)) (blkOk_by (own := [("item", 3)]) (N := ["value", "found", "key", "item"]) (sc := defScope s_law_copy) (by decide +kernel)) (fun _ _ _ _ _ => pg_name (i := 3) sc_law_copy.nd rfl (Or.inl rfl)) (fun _ _ _ _ _ => pts_nil) (fun _ _ _ _ _ => (pe_call G hr rfl A.law_copy.m A.law_copy.F.kp A.law_copy.b .nil pass0 (pa_cons (pv 3) pa_nil)))) pa_nil))))
    pss_nil)
  (pss_one (ps_ret (pv 0)))))), ?_⟩
    refine ⟨_, rfl, _, _, _, _, _, rfl, .ty _, hv.ty, k_dict _, _, rfl, ?_⟩
    cases d with
    | dict kvs =>
      refine iteY (by simp [kitD, tyN]) ?_
      obtain ⟨rfl, b, rfl, nb, hb⟩ := hv.dicE
      intro f nf
      have nbf : b ≠ f := ne_of_none hb nf
      refine ⟨b, .dK [], by rw [upd_ne nbf]; exact hb, trivial, fun od => ?_⟩
      refine ⟨_, rfl, b, od, rfl, .inl ⟨[], upd_same, ?_⟩⟩
      refine for_keys0 (d := b) (o := od) upd_same ?_
      refine ⟨upd_same, ?_⟩
      have hf : (upd (upd (upd H f (.dK [])) b (.frz od (.dK []))) b (.dK [])) f = some (.dK []) := by rw [upd_ne nbf.symm, upd_ne nbf.symm, upd_same]
      refine ⟨_, rfl, q _ _ (Is.dic hf (not_mem_new hM nf)) fun c o _ e => ?_⟩
      by_cases ec : c = b
      · rw [ec, upd_same, ← hb, ← ec, e]
      · rw [upd_ne ec, upd_ne ec, upd_ne (ne_of_none e nf), e]
    | list ds =>
      refine iteN (by simp [kitD, tyN]) ?_
      refine ⟨_, rfl, _, _, _, _, _, rfl, .ty _, hv.ty, k_list _, _, rfl, iteY (by simp [kitD, tyN]) ?_⟩
      obtain ⟨b, r, rfl, nb, hb, hr1⟩ := hv.lstE
      have hl := hr1.len
      have hdd : dep (.list ds) = 1 + depL ds := by rw [dep]
      have hss : sz (.list ds) = 1 + szL ds := by rw [sz]
      have hlen := szL_len ds
      refine ⟨_, rfl, b, rfl, ⟨_, SqL.of hb⟩, fun D nD => ?_⟩
      refine lc_dataL (M := M) (K := K) (a := b) (xs := r) ds hl nD (SqL.of hb) (by omega) ?_ ?_
      · intro i x dx H3 acc R hx hdx a3 hD k
        have hdl : dx ∈ ds := List.mem_of_getElem? hdx
        obtain ⟨x', hx', isx⟩ := hr1.get hdx
        rw [hx] at hx'
        cases hx'
        have d1 := dep_mem hdl
        have d2 := sz_mem hdl
        refine ⟨rfl, x, rfl, x, dx, D :: M, rfl, ?_, (isx.fresh nD).adv (a3.more (by simp)), by omega, by omega, fun v' H4 h4 a4 => ?_⟩
        · intro c hc
          rcases List.mem_cons.mp hc with e | hc
          · rw [e, hD]; simp
          · cases e : H c with
            | none => exact absurd e (hM c hc)
            | some o => rw [a3.same _ _ e]; simp
        · exact k v' H4 (a4.same _ _ hD) (a4.more (by simp)) h4
      · intro H3 acc a3 hD hacc
        exact q _ _ (Is.lst hD (not_mem_new hM nD) (hacc.less (by simp +contextual))) a3
    | tuple ds =>
      refine iteN (by simp [kitD, tyN]) ?_
      refine ⟨_, rfl, _, _, _, _, _, rfl, .ty _, hv.ty, k_list _, _, rfl, iteN (by simp [kitD, tyN]) ?_⟩
      refine ⟨_, rfl, _, _, _, _, _, rfl, .ty _, hv.ty, k_tuple _, _, rfl, iteY (by simp [kitD, tyN]) ?_⟩
      obtain ⟨b, r, rfl, nb, hb, hr1⟩ := hv.tupE
      have hl := hr1.len
      have hdd : dep (.tuple ds) = 1 + depL ds := by rw [dep]
      have hss : sz (.tuple ds) = 1 + szL ds := by rw [sz]
      have hlen := szL_len ds
      refine ⟨_, rfl, b, rfl, ⟨_, SqT.of hb⟩, fun D nD => ?_⟩
      refine lc_dataT (M := M) (K := K) (a := b) (xs := r) ds hl nD (SqT.of hb) (by omega) ?_ ?_
      · intro i x dx H3 acc R hx hdx a3 hD k
        have hdl : dx ∈ ds := List.mem_of_getElem? hdx
        obtain ⟨x', hx', isx⟩ := hr1.get hdx
        rw [hx] at hx'
        cases hx'
        have d1 := dep_mem hdl
        have d2 := sz_mem hdl
        refine ⟨rfl, x, rfl, x, dx, D :: M, rfl, ?_, (isx.fresh nD).adv (a3.more (by simp)), by omega, by omega, fun v' H4 h4 a4 => ?_⟩
        · intro c hc
          rcases List.mem_cons.mp hc with e | hc
          · rw [e, hD]; simp
          · cases e : H c with
            | none => exact absurd e (hM c hc)
            | some o => rw [a3.same _ _ e]; simp
        · exact k v' H4 (a4.same _ _ hD) (a4.more (by simp)) h4
      · intro H3 acc a3 hD hacc
        refine ⟨D, acc, rfl, .inl ⟨SqL.of hD, fun l nl => ?_⟩⟩
        have aN : Adv [] H3 (upd H3 l (.tup acc)) := Adv.new nl
        exact q _ _ (Is.tup upd_same (not_mem_new hM (a3.free (by simp) nl)) ((hacc.less (by simp +contextual)).adv (aN.more (by simp)))) (a3.trans aN)
    | none =>
      refine iteN (by simp [kitD, tyN]) ?_
      refine ⟨_, rfl, _, _, _, _, _, rfl, .ty _, hv.ty, k_list _, _, rfl, iteN (by simp [kitD, tyN]) ?_⟩
      refine ⟨_, rfl, _, _, _, _, _, rfl, .ty _, hv.ty, k_tuple _, _, rfl, iteN (by simp [kitD, tyN]) ?_⟩
      exact ⟨_, rfl, q _ _ hv (Adv.refl _ _)⟩
    | bool _ =>
      refine iteN (by simp [kitD, tyN]) ?_
      refine ⟨_, rfl, _, _, _, _, _, rfl, .ty _, hv.ty, k_list _, _, rfl, iteN (by simp [kitD, tyN]) ?_⟩
      refine ⟨_, rfl, _, _, _, _, _, rfl, .ty _, hv.ty, k_tuple _, _, rfl, iteN (by simp [kitD, tyN]) ?_⟩
      exact ⟨_, rfl, q _ _ hv (Adv.refl _ _)⟩
    | int _ =>
      refine iteN (by simp [kitD, tyN]) ?_
      refine ⟨_, rfl, _, _, _, _, _, rfl, .ty _, hv.ty, k_list _, _, rfl, iteN (by simp [kitD, tyN]) ?_⟩
      refine ⟨_, rfl, _, _, _, _, _, rfl, .ty _, hv.ty, k_tuple _, _, rfl, iteN (by simp [kitD, tyN]) ?_⟩
      exact ⟨_, rfl, q _ _ hv (Adv.refl _ _)⟩
    | str _ =>
      refine iteN (by simp [kitD, tyN]) ?_
      refine ⟨_, rfl, _, _, _, _, _, rfl, .ty _, hv.ty, k_list _, _, rfl, iteN (by simp [kitD, tyN]) ?_⟩
      refine ⟨_, rfl, _, _, _, _, _, rfl, .ty _, hv.ty, k_tuple _, _, rfl, iteN (by simp [kitD, tyN]) ?_⟩
      exact ⟨_, rfl, q _ _ hv (Adv.refl _ _)⟩

theorem ok_law_copy (A : All K mg w) : ∀ n : Nat, FnOk P w K mg base CX0 (n + 1) A.law_copy.f A.law_copy.fd ["value"] (spCopy n)
  | 0 => copy_0 A
  | n + 1 => copy_s A (ok_law_copy A n)
end
end K01

set_option Elab.async false
set_option linter.all false
set_option maxRecDepth 100000
set_option maxHeartbeats 4000000
namespace K01
open PySem PySem.Spec PyProof.Rows L2 LL
open C8 (pss_cut)
section
variable {P : Program} {w : World} {K : PySem.W.Frag} {mg : Str → Option Value} {base : Heap}
/-! ### _law_row -/
def spRow : Sp := fun vs H Q _ => ∃ (M : List Addr) (s bk b0 b1 nd : Addr) (n : Nat) (ks : List Key), vs = [.ref bk, .ref nd] ∧ Bk M H s bk b0 b1 n ∧ H nd = some (.tup (ks.map kV)) ∧ nd ∉ M ∧ ks.length ≤ 3 ∧ n ≤ 1000000 ∧
  ∀ (r n' : Nat) (H' : Hp), r < n' → n ≤ n' → n' ≤ n + 1 → Bk M H' s bk b0 b1 n' → Adv [b0, b1] H H' → Q (.int r) H'
theorem ok_law_row (A : All K mg w) : FnOk P w K mg base CX0 1 A.law_row.f A.law_row.fd ["book", "node"] spRow := by
  refine A.law_row.F.ok sc_law_row (fun vs H Q E h => ?_) (fun cdv Ar outer s H vs Q E hr h => ?_)
  · obtain ⟨M, s, bk, b0, b1, nd, n, ks, rfl, _⟩ := h
    rfl
  · obtain ⟨M, s, bk, b0, b1, nd, n, ks, rfl, B, hnd, hnM, hks, hn, q⟩ := h
    refine ⟨_, (pss_cons (ps_if (pt_cmp (pc_dnotin (hu_of hr) (pv 1) (pe_ix ix_list (pv 0) pe_int (fun _ _ => rfl))))
    (pss_cons (ps_dput (hu_of hr) (pe_ix ix_list (pv 0) pe_int (fun _ _ => rfl)) (pv 1) (pe_callB call_len_seq (by rfl) A.T.len PySem.boot_len (pa_cons (pe_ix ix_list (pv 0) pe_int (fun _ _ => rfl)) pa_nil)) rfl)
  (pss_one (ps_expr (pe_bm PySem.F.plainAttrs_list PySem.F.slot_list_append PySem.F.type_list_append mt_append (pe_ix ix_list (pv 0) pe_int (fun _ _ => rfl)) (pa_cons (pv 1) pa_nil)))))
    pss_nil)
  (pss_one (ps_ret (pe_dget (hu_of hr) (pe_ix ix_list (pv 0) pe_int (fun _ _ => rfl)) (pv 1) (fun _ _ => rfl))))), ?_⟩
    obtain ⟨x1, hbk, x3, m0, m1, kM, x7, x8, n01, xa, rs, ds, kvs, r0, rl, rd, rsm, r1, kl, kval⟩ := id B
    have i0 : atI [V.ref b0, .ref b1] 0 = some (.ref b0) := atI_nat (j := 0) rfl
    have i1 : atI [V.ref b0, .ref b1] 1 = some (.ref b1) := atI_nat (j := 1) rfl
    refine ⟨_, rfl, _, rfl, bk, _, 1, _, rfl, rfl, SqL.of hbk, i1, b1, _, rfl, DGet.t r1 hnd, _, rfl, ?_⟩
    cases hv : valV kvs ks with
    | some v =>
      refine iteN rfl ?_
      refine ⟨_, rfl, bk, _, 1, _, rfl, rfl, SqL.of hbk, i1, _, rfl, b1, v, rfl, by have := DGet.t r1 hnd; rw [hv] at this; exact this, ?_⟩
      obtain ⟨p, hp, rfl⟩ : ∃ p ∈ kvs, p.2 = v := by
        unfold valV at hv
        rw [Option.map_eq_some_iff] at hv
        obtain ⟨p, hp, e⟩ := hv
        exact ⟨p, List.mem_of_find?_eq_some hp, e⟩
      obtain ⟨i, ei, hi⟩ := kval p hp
      rw [ei]
      exact q i n H hi (Nat.le_refl _) (by omega) B (Adv.refl _ _)
    | none =>
      refine iteY rfl ?_
      have hmem : memK ks (kvs.map (·.1)) = false := by rw [← val_mem, hv]; rfl
      -- book[1][node] = len(book[0])
      refine ⟨_, rfl, bk, _, 0, _, rfl, rfl, SqL.of hbk, i0, b0, rs, rfl, .inl (SqL.of r0), ?_⟩
      refine ⟨_, rfl, bk, _, 1, _, rfl, rfl, SqL.of hbk, i1, _, rfl, b1, _, rfl, DPut.t r1 hnd (by rw [sizeLine_eq]; omega), ?_⟩
      rw [put_new _ _ _ hmem]
      have kb1 : bk ≠ b1 := fun z => kM (by rw [z]; exact m1)
      have kb0 : bk ≠ b0 := fun z => kM (by rw [z]; exact m0)
      have hbk1 : (upd H b1 (.dT (kvs ++ [(ks, V.int (rs.length : Nat))]))) bk = some (.lst [.ref b0, .ref b1]) := by rw [upd_ne kb1]; exact hbk
      have r01 : (upd H b1 (.dT (kvs ++ [(ks, V.int (rs.length : Nat))]))) b0 = some (.lst rs) := by rw [upd_ne n01]; exact r0
      -- book[0].append(node)
      refine ⟨_, rfl, bk, _, 0, _, rfl, rfl, SqL.of hbk1, i0, .inl ⟨rfl, _, SqL.of r01⟩, _, rfl, b0, rs, _, rfl, rfl, r01, by rw [sizeLine_eq]; omega, ?_⟩
      have hbk2 : (upd (upd H b1 (.dT (kvs ++ [(ks, V.int (rs.length : Nat))]))) b0 (.lst (rs ++ [.ref nd]))) bk = some (.lst [.ref b0, .ref b1]) := by rw [upd_ne kb0]; exact hbk1
      have r12 : (upd (upd H b1 (.dT (kvs ++ [(ks, V.int (rs.length : Nat))]))) b0 (.lst (rs ++ [.ref nd]))) b1 = some (.dT (kvs ++ [(ks, V.int (rs.length : Nat))])) := by rw [upd_ne n01.symm, upd_same]
      have aa : Adv [b0, b1] H (upd (upd H b1 (.dT (kvs ++ [(ks, V.int (rs.length : Nat))]))) b0 (.lst (rs ++ [.ref nd]))) := (Adv.set (by simp)).trans (Adv.set (by simp))
      have hn2 : nd ∉ [b0, b1] := fun z => by
        rcases List.mem_cons.mp z with z | z
        · exact hnM (by rw [z]; exact m0)
        · exact hnM (by rw [List.mem_singleton.mp z]; exact m1)
      have hnd2 := aa _ _ hn2 hnd
      have aM := aa.more (N := M) (by simp [m0, m1])
      have hval : valV (kvs ++ [(ks, V.int (rs.length : Nat))]) ks = some (.int (rs.length : Nat)) := by
        unfold valV at hv ⊢
        rw [Option.map_eq_none_iff] at hv
        rw [List.find?_append, hv, Option.none_or, List.find?_cons]
        simp
      refine ⟨_, rfl, bk, _, 1, _, rfl, rfl, SqL.of hbk2, i1, _, rfl, b1, _, rfl, by have := DGet.t r12 hnd2; rw [hval] at this; exact this, ?_⟩
      have hal : ∀ b ∈ [b0, b1], (upd (upd H b1 (.dT (kvs ++ [(ks, V.int (rs.length : Nat))]))) b0 (.lst (rs ++ [.ref nd]))) b ≠ none := fun b hb => by
        rcases List.mem_cons.mp hb with e | hb
        · rw [e, upd_same]; simp
        · rw [List.mem_singleton.mp hb, r12]; simp
      refine q rs.length (n + 1) _ (by omega) (by omega) (Nat.le_refl _) ?_ aa
      refine ⟨x1.adv aa (by simp [x7, x8]) (by simp [m0, m1]), hbk2, x3, m0, m1, kM, x7, x8, n01, alloc_adv xa aa hal, ⟨rs ++ [.ref nd], ds ++ [.tuple (ks.map keyDt)], _, upd_same, by rw [List.length_append, List.length_singleton]; omega, ?_, ?_, r12, by rw [List.length_append, List.length_singleton]; omega, ?_⟩⟩
      · exact (rd.adv aM).app (IsDs.one (nd_data hnd2 hnM))
      · intro d hd
        rcases List.mem_append.mp hd with hd | hd
        · exact rsm d hd
        · rw [List.mem_singleton.mp hd]; exact nd_small hks
      · intro p hp
        rcases List.mem_append.mp hp with hp | hp
        · obtain ⟨i, e, hi⟩ := kval p hp
          exact ⟨i, e, by omega⟩
        · rw [List.mem_singleton.mp hp]; exact ⟨rs.length, rfl, by omega⟩
/-! ### _law_leaf -/
def spLeaf : Sp := fun vs H Q _ => ∃ (M : List Addr) (s bk b0 b1 : Addr) (n : Nat) (letters : Int), vs = [.ref s, .ref bk, .int letters] ∧ Bk M H s bk b0 b1 n ∧ 0 < letters ∧ letters < 1000 ∧ n ≤ 1000000 ∧
  ∀ (r n' : Nat) (H' : Hp), r < n' → n ≤ n' → n' ≤ n + 1 → Bk M H' s bk b0 b1 n' → Adv [s, b0, b1] H H' → Q (.int r) H'
/-- a new node goes to the book -/
theorem row_call {M : List Addr} {H H0 : Hp} {s bk b0 b1 p : Addr} {n : Nat} {ks : List Key} {Q : VK} {E : XK} (B : Bk M H s bk b0 b1 n) (a0 : Adv [s, b0, b1] H0 H) (hp : H p = none) (hk : ks.length ≤ 3) (hn : n ≤ 1000000)
    (q : ∀ (r n' : Nat) (H' : Hp), r < n' → n ≤ n' → n' ≤ n + 1 → Bk M H' s bk b0 b1 n' → Adv [s, b0, b1] H0 H' → Q (.int r) H') : spRow [.ref bk, .ref p] (upd H p (.tup (ks.map kV))) Q E :=
  ⟨M, s, bk, b0, b1, p, n, ks, rfl, B.same (Adv.new hp), upd_same, not_mem_new B.al hp, hk, hn, fun r n' H' h1 h2 h3 h4 h5 => q r n' H' h1 h2 h3 h4 ((a0.newT hp).trans h5.two)⟩
theorem ok_law_leaf (A : All K mg w) : FnOk P w K mg base CX0 2 A.law_leaf.f A.law_leaf.fd ["stream", "book", "letters"] spLeaf := by
  refine A.law_leaf.F.ok sc_law_leaf (fun vs H Q E h => ?_) (fun cdv Ar outer s H vs Q E hr h => ?_)
  · obtain ⟨M, s, bk, b0, b1, n, letters, rfl, _⟩ := h
    rfl
  · obtain ⟨M, s, bk, b0, b1, n, letters, rfl, B, hl0, hl1, hn, q⟩ := h
    refine ⟨_, (pss_one (ps_ret (pe_call (ok_law_row A) (hr.mono (by omega)) rfl A.law_row.m A.law_row.F.kp A.law_row.b .nil pass0 (pa_cons (pv 1) (pa_cons (pe_ifExp (pt_cmpR op_eq (pe_call (ok_law_next A) (hr.mono (by omega)) rfl A.law_next.m A.law_next.F.kp A.law_next.b .nil pass0 (pa_cons (pv 0) (pa_cons pe_int pa_nil))) pe_int (nomark _)) (pe_tup (pa_cons pe_str pa_nil)) (pe_tup (pa_cons pe_str (pa_cons (pe_call (ok_law_next A) (hr.mono (by omega)) rfl A.law_next.m A.law_next.F.kp A.law_next.b .nil pass0 (pa_cons (pv 0) (pa_cons (pv 2) pa_nil))) pa_nil)))) pa_nil))))), ?_⟩
    refine ⟨_, rfl, _, rfl, s, 7, M, rfl, B.str, by decide, by decide, fun d H1 h0 h1 hs1 a1 => ?_⟩
    have B1 := B.next a1 hs1
    refine ⟨rfl, _, rfl, iteB (fun e => ?_) (fun e => ?_)⟩
    · refine ⟨by show 1 ≤ sizeLine; decide, fun p np => ?_⟩
      exact row_call (ks := [.inr "no"]) (E := E0) B1 a1.one np (by decide) hn q
    · refine ⟨_, rfl, _, rfl, s, letters, M, rfl, hs1, hl0, by omega, fun d2 H2 g0 g1 hs2 a2 => ?_⟩
      refine ⟨by show 2 ≤ sizeLine; decide, fun p np => ?_⟩
      exact row_call (ks := [.inr "letter", .inl d2]) (E := E0) (B1.next a2 hs2) (a1.one.trans a2.one) np (by simp) hn q
end
end K01

set_option Elab.async false
set_option linter.all false
set_option maxRecDepth 100000
set_option maxHeartbeats 4000000
namespace K01
open PySem PySem.Spec PyProof.Rows L2 LL
open C8 (pss_cut)
section
variable {P : Program} {w : World} {K : PySem.W.Frag} {mg : Str → Option Value} {base : Heap}
/-! ### _law_tree -/
def spTree (m : Nat) : Sp := fun vs H Q _ => ∃ (M : List Addr) (s bk b0 b1 : Addr) (n : Nat) (letters many : Int) (boxed : Bool), vs = [.ref s, .ref bk, .int letters, .int many, .bl boxed] ∧ Bk M H s bk b0 b1 n ∧ 0 < letters ∧ letters < 1000 ∧ many ≤ m ∧ m ≤ 1000 ∧ n + 4 * many.toNat ≤ 900000 ∧
  ∀ (r n' : Nat) (H' : Hp), r < n' → n ≤ n' → n' ≤ n + 2 * many.toNat + 1 → Bk M H' s bk b0 b1 n' → Adv [s, b0, b1] H H' → Q (.int r) H'
theorem tree_0 (A : All K mg w) : FnOk P w K mg base CX0 3 A.law_tree.f A.law_tree.fd ["stream", "book", "letters", "many", "boxed"] (spTree 0) := by
  refine A.law_tree.F.ok sc_law_tree (fun vs H Q E h => ?_) (fun cdv Ar outer s H vs Q E hr h => ?_)
  · obtain ⟨M, s, bk, b0, b1, n, letters, many, boxed, rfl, _⟩ := h
    rfl
  · obtain ⟨M, s, bk, b0, b1, n, letters, many, boxed, rfl, B, hl0, hl1, hmm, hm1, hn, q⟩ := h
    refine ⟨_, (pss_cons (ps_if (pt_cmpR op_le (pv 3) pe_int (nomark _))
    (pss_one (ps_ret (pe_call (ok_law_leaf A) (hr.mono (by omega)) rfl A.law_leaf.m A.law_leaf.F.kp A.law_leaf.b .nil pass0 (pa_cons (pv 0) (pa_cons (pv 1) (pa_cons (pv 2) pa_nil))))))
    pss_nil)
  (pss_cons (ps_if (PW.pt (pw_and (pt_val (pv 4)) (pw_and1 (pt_cmpR op_lt (pe_call (ok_law_next A) (hr.mono (by omega)) rfl A.law_next.m A.law_next.F.kp A.law_next.b .nil pass0 (pa_cons (pv 0) (pa_cons pe_int pa_nil))) pe_int (nomark _)))))
    (pss_one (ps_ret (pe_call (ok_law_row A) (hr.mono (by omega)) rfl A.law_row.m A.law_row.F.kp A.law_row.b .nil pass0 (pa_cons (pv 1) (pa_cons (pe_tup (pa_cons pe_str (pa_cons pe_never pa_nil))) pa_nil)))))
    pss_nil)
  (pss_cons (ps_set (i := 5) sc_law_tree.nd rfl (Or.inl rfl) (pe_call (ok_law_next A) (hr.mono (by omega)) rfl A.law_next.m A.law_next.F.kp A.law_next.b .nil pass0 (pa_cons (pv 0) (pa_cons (pv 3) pa_nil))))
  (pss_cons (ps_set (i := 6) sc_law_tree.nd rfl (Or.inl rfl) pe_never)
  (pss_cons (ps_set (i := 7) sc_law_tree.nd rfl (Or.inl rfl) pe_never)
  (pss_one (ps_ret (pe_call (ok_law_row A) (hr.mono (by omega)) rfl A.law_row.m A.law_row.F.kp A.law_row.b .nil pass0 (pa_cons (pv 1) (pa_cons (pe_tup (pa_cons (pe_call (ok_law_pick A) (hr.mono (by omega)) rfl A.law_pick.m A.law_pick.F.kp A.law_pick.b .nil pass0 (pa_cons (pv 0) (pa_cons (pe_tup (pa_cons pe_str (pa_cons pe_str (pa_cons pe_str (pa_cons pe_str pa_nil))))) pa_nil))) (pa_cons (pv 6) (pa_cons (pv 7) pa_nil)))) pa_nil)))))))))), ?_⟩
    refine ⟨_, rfl, many, 0, rfl, rfl, _, rfl, iteB (fun e => ?_) (fun e => ?_)⟩
    · have hm0 : many ≤ 0 := of_decide_eq_true e
      exact ⟨_, rfl, _, rfl, _, rfl, M, s, bk, b0, b1, n, letters, rfl, B, hl0, hl1, by omega, fun r n' H' h1 h2 h3 h4 h5 => q r n' H' h1 h2 (by omega) h4 h5⟩
    have hm0 : ¬ many ≤ 0 := of_decide_eq_false e
    omega
theorem tree_s (A : All K mg w) {m : Nat} (G : FnOk P w K mg base CX0 (m + 3) A.law_tree.f A.law_tree.fd ["stream", "book", "letters", "many", "boxed"] (spTree m)) : FnOk P w K mg base CX0 (m + 4) A.law_tree.f A.law_tree.fd ["stream", "book", "letters", "many", "boxed"] (spTree (m + 1)) := by
  refine A.law_tree.F.ok sc_law_tree (fun vs H Q E h => ?_) (fun cdv Ar outer s H vs Q E hr h => ?_)
  · obtain ⟨M, s, bk, b0, b1, n, letters, many, boxed, rfl, _⟩ := h
    rfl
  · obtain ⟨M, s, bk, b0, b1, n, letters, many, boxed, rfl, B, hl0, hl1, hmm, hm1, hn, q⟩ := h
    refine ⟨_, (pss_cons (ps_if (pt_cmpR op_le (pv 3) pe_int (nomark _))
    (pss_one (ps_ret (pe_call (ok_law_leaf A) (hr.mono (by omega)) rfl A.law_leaf.m A.law_leaf.F.kp A.law_leaf.b .nil pass0 (pa_cons (pv 0) (pa_cons (pv 1) (pa_cons (pv 2) pa_nil))))))
    pss_nil)
  (pss_cons (ps_if (PW.pt (pw_and (pt_val (pv 4)) (pw_and1 (pt_cmpR op_lt (pe_call (ok_law_next A) (hr.mono (by omega)) rfl A.law_next.m A.law_next.F.kp A.law_next.b .nil pass0 (pa_cons (pv 0) (pa_cons pe_int pa_nil))) pe_int (nomark _)))))
    (pss_one (ps_ret (pe_call (ok_law_row A) (hr.mono (by omega)) rfl A.law_row.m A.law_row.F.kp A.law_row.b .nil pass0 (pa_cons (pv 1) (pa_cons (pe_tup (pa_cons pe_str (pa_cons (pe_call G (hr.mono (by omega)) rfl A.law_tree.m A.law_tree.F.kp A.law_tree.b .nil pass0 (pa_cons (pv 0) (pa_cons (pv 1) (pa_cons (pv 2) (pa_cons (pe_op op_sub (pv 3) pe_int) (pa_cons (pv 4) pa_nil)))))) pa_nil))) pa_nil)))))
    pss_nil)
  (pss_cons (ps_set (i := 5) sc_law_tree.nd rfl (Or.inl rfl) (pe_call (ok_law_next A) (hr.mono (by omega)) rfl A.law_next.m A.law_next.F.kp A.law_next.b .nil pass0 (pa_cons (pv 0) (pa_cons (pv 3) pa_nil))))
  (pss_cons (ps_set (i := 6) sc_law_tree.nd rfl (Or.inl rfl) (pe_call G (hr.mono (by omega)) rfl A.law_tree.m A.law_tree.F.kp A.law_tree.b .nil pass0 (pa_cons (pv 0) (pa_cons (pv 1) (pa_cons (pv 2) (pa_cons (pv 5) (pa_cons (pv 4) pa_nil)))))))
  (pss_cons (ps_set (i := 7) sc_law_tree.nd rfl (Or.inl rfl) (pe_call G (hr.mono (by omega)) rfl A.law_tree.m A.law_tree.F.kp A.law_tree.b .nil pass0 (pa_cons (pv 0) (pa_cons (pv 1) (pa_cons (pv 2) (pa_cons (pe_op op_sub (pe_op op_sub (pv 3) pe_int) (pv 5)) (pa_cons (pv 4) pa_nil)))))))
  (pss_one (ps_ret (pe_call (ok_law_row A) (hr.mono (by omega)) rfl A.law_row.m A.law_row.F.kp A.law_row.b .nil pass0 (pa_cons (pv 1) (pa_cons (pe_tup (pa_cons (pe_call (ok_law_pick A) (hr.mono (by omega)) rfl A.law_pick.m A.law_pick.F.kp A.law_pick.b .nil pass0 (pa_cons (pv 0) (pa_cons (pe_tup (pa_cons pe_str (pa_cons pe_str (pa_cons pe_str (pa_cons pe_str pa_nil))))) pa_nil))) (pa_cons (pv 6) (pa_cons (pv 7) pa_nil)))) pa_nil)))))))))), ?_⟩
    refine ⟨_, rfl, many, 0, rfl, rfl, _, rfl, iteB (fun e => ?_) (fun e => ?_)⟩
    · have hm0 : many ≤ 0 := of_decide_eq_true e
      exact ⟨_, rfl, _, rfl, _, rfl, M, s, bk, b0, b1, n, letters, rfl, B, hl0, hl1, by omega, fun r n' H' h1 h2 h3 h4 h5 => q r n' H' h1 h2 (by omega) h4 h5⟩
    have hm0 : ¬ many ≤ 0 := of_decide_eq_false e
    refine ⟨_, rfl, _, rfl, ?_⟩
    have go : ∀ H0, Bk M H0 s bk b0 b1 n → Adv [s, b0, b1] H H0 → tSeq (tAsg (tCall spNext [] E0 (tCons (tVar 0) (tCons (tVar 3) tNil))) (gName 5)) (tSeq (tAsg (tCall (spTree m) [] E0 (tCons (tVar 0) (tCons (tVar 1) (tCons (tVar 2) (tCons (tVar 5) (tCons (tVar 4) tNil)))))) (gName 6))
        (tSeq (tAsg (tCall (spTree m) [] E0 (tCons (tVar 0) (tCons (tVar 1) (tCons (tVar 2) (tCons (tOp (rI0 fun i j => .int (i - j)) (tOp (rI0 fun i j => .int (i - j)) (tVar 3) (tC (.int 1))) (tVar 5)) (tCons (tVar 4) tNil)))))) (gName 7))
          (tRet (tCall spRow [] E0 (tCons (tVar 1) (tCons (tTup (tCons (tCall spPick [] E0 (tCons (tVar 0) (tCons (tTup (tCons (tC (.str "and")) (tCons (tC (.str "or")) (tCons (tC (.str "if")) (tCons (tC (.str "if")) tNil))))) tNil))) (tCons (tVar 6) (tCons (tVar 7) tNil)))) tNil)))))) { nx := fun _ H' => Q .non H', rt := Q } [some (.ref s), some (.ref bk), some (.int letters), some (.int many), some (.bl boxed), none, none, none] H0 := by
      intro H0 B0 a0
      refine ⟨_, rfl, _, rfl, s, many, M, rfl, B0.str, by omega, by omega, fun f H1 f0 f1 hs1 a1 => ?_⟩
      have B1 := B0.next a1 hs1
      have a01 : Adv [s, b0, b1] H H1 := a0.trans a1.one
      refine ⟨_, rfl, _, rfl, _, rfl, _, rfl, _, rfl, M, s, bk, b0, b1, n, letters, f, boxed, rfl, B1, hl0, hl1, by omega, by omega, by omega, fun j n2 H2 j1 j2 j3 B2 a2 => ?_⟩
      refine ⟨_, rfl, _, rfl, _, rfl, _, rfl, many, 1, rfl, rfl, _, rfl, many - 1, f, rfl, rfl, _, rfl, M, s, bk, b0, b1, n2, letters, many - 1 - f, boxed, rfl, B2, hl0, hl1, by omega, by omega, by omega, fun k n3 H3 k1 k2 k3 B3 a3 => ?_⟩
      refine ⟨_, rfl, _, rfl, by show 4 ≤ sizeLine; decide, fun p np => ?_⟩
      have B4 := B3.same (Adv.new (o := .tup [.str "and", .str "or", .str "if", .str "if"]) np)
      refine ⟨s, p, [.str "and", .str "or", .str "if", .str "if"], M, rfl, B4.str, .inr upd_same, (B3.alloc np).1, by simp, by simp, fun x H5 hx hs5 a5 => ?_⟩
      have B5 := B4.next a5 hs5
      have a05 : Adv [s, b0, b1] H H5 := (((a01.trans a2).trans a3).newT np).trans a5.one
      refine ⟨_, rfl, _, rfl, by show 3 ≤ sizeLine; decide, fun t nt => ?_⟩
      obtain ⟨wd, rfl⟩ : ∃ wd, x = V.str wd := by
        simp at hx
        rcases hx with h | h | h
        · exact ⟨_, h⟩
        · exact ⟨_, h⟩
        · exact ⟨_, h⟩
      exact row_call (ks := [.inr wd, .inl j, .inl k]) (E := E0) B5 a05 nt (by simp) (by omega) fun r n6 H6 r1 r2 r3 B6 a6 => q r n6 H6 r1 (by omega) (by omega) B6 a6
    cases boxed with
    | false => exact iteN rfl (go H B (Adv.refl _ _))
    | true =>
      refine iteY rfl ?_
      refine ⟨_, rfl, s, 5, M, rfl, B.str, by decide, by decide, fun d H1 d0 d1 hs1 a1 => ?_⟩
      have B1 := B.next a1 hs1
      refine ⟨d, 2, rfl, rfl, _, rfl, iteB (fun e => ?_) (fun e => go H1 B1 a1.one)⟩
      refine ⟨_, rfl, _, rfl, _, rfl, _, rfl, _, rfl, many, 1, rfl, rfl, _, rfl, M, s, bk, b0, b1, n, letters, many - 1, true, rfl, B1, hl0, hl1, by omega, by omega, by omega, fun j n2 H2 j1 j2 j3 B2 a2 => ?_⟩
      refine ⟨by show 2 ≤ sizeLine; decide, fun t nt => ?_⟩
      exact row_call (ks := [.inr "box", .inl j]) (E := E0) B2 (a1.one.trans a2) nt (by simp) (by omega) fun r n6 H6 r1 r2 r3 B6 a6 => q r n6 H6 r1 (by omega) (by omega) B6 a6
theorem ok_law_tree (A : All K mg w) : ∀ m : Nat, FnOk P w K mg base CX0 (m + 3) A.law_tree.f A.law_tree.fd ["stream", "book", "letters", "many", "boxed"] (spTree m)
  | 0 => tree_0 A
  | m + 1 => tree_s A (ok_law_tree A m)
end
end K01

set_option Elab.async false
set_option linter.all false
set_option maxRecDepth 100000
set_option maxHeartbeats 4000000
namespace K01
open PySem PySem.Spec PyProof.Rows L2 LL
open C8 (pss_cut)
abbrev nV (rs : List Nat) : List V := rs.map fun r => V.int (r : Nat)
section
variable {P : Program} {w : World} {K : PySem.W.Frag} {mg : Str → Option Value} {base : Heap}
def spForm (m : Nat) : Sp := fun vs H Q _ => ∃ (M : List Addr) (s bk b0 b1 : Addr) (n : Nat) (letters many : Int) (boxed : Bool), vs = [.ref s, .ref bk, .int letters, .int many, .bl boxed] ∧ Bk M H s bk b0 b1 n ∧ 0 < letters ∧ letters < 1000 ∧ 0 ≤ many ∧ many ≤ m ∧ m ≤ 1000 ∧ n + 4 * many.toNat ≤ 800000 ∧
  ∀ (r n' : Nat) (H' : Hp), r < n' → n ≤ n' → n' ≤ n + 2 * many.toNat + 3 → Bk M H' s bk b0 b1 n' → Adv [s, b0, b1] H H' → Q (.int r) H'
theorem ok_law_heap (A : All K mg w) {m : Nat} : FnOk P w K mg base CX0 3 A.law_heap.f A.law_heap.fd ["stream", "book", "letters", "many", "boxed"] (spForm m) := by
  refine A.law_heap.F.ok sc_law_heap (fun vs H Q E h => ?_) (fun cdv Ar outer s H vs Q E hr h => ?_)
  · obtain ⟨M, s, bk, b0, b1, n, letters, many, boxed, rfl, _⟩ := h
    rfl
  · obtain ⟨M, s, bk, b0, b1, n, letters, many, boxed, rfl, B, hl0, hl1, hm0, hmm, hm1, hn, q⟩ := h
    refine ⟨_, (pss_cons (ps_setLc (i := 6) (own := [("k", 5)]) (g := gName 5) rfl sc_law_heap.nd rfl rfl (sw_true rfl rfl rfl (by decide +kernel)) (pi_range1 rfl A.T.range (pa_cons pe_int pa_nil)) (blkOk_by (own := [("k", 5)]) (N := ["stream", "book", "letters", "many", "boxed", "k", "rows", "j", "other", "word"]) (sc := defScope s_law_heap) (by decide +kernel)) (fun _ _ _ _ _ => pg_name (i := 5) sc_law_heap.nd rfl (Or.inl rfl)) (fun _ _ _ _ _ => pts_nil) (fun _ _ _ _ _ => (pe_call (ok_law_leaf A) (hr.mono (by omega)) rfl A.law_leaf.m A.law_leaf.F.kp A.law_leaf.b .nil pass0 (pa_cons (pv 0) (pa_cons (pv 1) (pa_cons (pv 2) pa_nil))))))
  (pss_cons (ps_for PassesOwn.never rfl (pi_range1 rfl A.T.range (pa_cons (pv 3) pa_nil)) (pg_name (i := 5) sc_law_heap.nd rfl (Or.inl rfl))
    (pss_cons (ps_set (i := 7) sc_law_heap.nd rfl (Or.inl rfl) (pe_ix ix_list (pv 6) (pe_op op_sub (pe_op op_sub (pe_callB call_len_seq (by rfl) A.T.len PySem.boot_len (pa_cons (pv 6) pa_nil)) pe_int) (pe_call (ok_law_next A) (hr.mono (by omega)) rfl A.law_next.m A.law_next.F.kp A.law_next.b .nil pass0 (pa_cons (pv 0) (pa_cons pe_int pa_nil)))) (fun _ _ => rfl)))
  (pss_cons (ps_set (i := 8) sc_law_heap.nd rfl (Or.inl rfl) (pe_call (ok_law_pick A) (hr.mono (by omega)) rfl A.law_pick.m A.law_pick.F.kp A.law_pick.b .nil pass0 (pa_cons (pv 0) (pa_cons (pv 6) pa_nil))))
  (pss_cons (ps_set (i := 9) sc_law_heap.nd rfl (Or.inl rfl) (pe_call (ok_law_pick A) (hr.mono (by omega)) rfl A.law_pick.m A.law_pick.F.kp A.law_pick.b .nil pass0 (pa_cons (pv 0) (pa_cons (pe_ifExp (pt_val (pv 4)) (pe_tup (pa_cons pe_str (pa_cons pe_str (pa_cons pe_str (pa_cons pe_str (pa_cons pe_str (pa_cons pe_str pa_nil))))))) (pe_tup (pa_cons pe_str (pa_cons pe_str (pa_cons pe_str (pa_cons pe_str pa_nil)))))) pa_nil))))
  (pss_one (ps_if (pt_cmpR op_eq (pv 9) pe_str (nomark _))
    (pss_one (ps_expr (pe_bm PySem.F.plainAttrs_list PySem.F.slot_list_append PySem.F.type_list_append mt_append (pv 6) (pa_cons (pe_call (ok_law_row A) (hr.mono (by omega)) rfl A.law_row.m A.law_row.F.kp A.law_row.b .nil pass0 (pa_cons (pv 1) (pa_cons (pe_tup (pa_cons pe_str (pa_cons (pv 7) pa_nil))) pa_nil))) pa_nil))))
    (pss_one (ps_expr (pe_bm PySem.F.plainAttrs_list PySem.F.slot_list_append PySem.F.type_list_append mt_append (pv 6) (pa_cons (pe_call (ok_law_row A) (hr.mono (by omega)) rfl A.law_row.m A.law_row.F.kp A.law_row.b .nil pass0 (pa_cons (pv 1) (pa_cons (pe_ifExp (pt_cmpR op_eq (pe_call (ok_law_next A) (hr.mono (by omega)) rfl A.law_next.m A.law_next.F.kp A.law_next.b .nil pass0 (pa_cons (pv 0) (pa_cons pe_int pa_nil))) pe_int (nomark _)) (pe_tup (pa_cons (pv 9) (pa_cons (pv 8) (pa_cons (pv 7) pa_nil)))) (pe_tup (pa_cons (pv 9) (pa_cons (pv 7) (pa_cons (pv 8) pa_nil))))) pa_nil))) pa_nil))))))))))
  (pss_one (ps_ret (pe_ix ix_list (pv 6) (pe_op op_sub (pe_callB call_len_seq (by rfl) A.T.len PySem.boot_len (pa_cons (pv 6) pa_nil)) pe_int) (fun _ _ => rfl)))))), ?_⟩
    -- rows = [leaf, leaf, leaf]
    refine ⟨3, rfl, by decide, by decide, fun D nD => ?_⟩
    obtain ⟨nDs, nDk, nD0, nD1⟩ := B.alloc nD
    have nDm : D ∉ [s, b0, b1] := by simp [nDs, nD0, nD1]
    refine lc_range (lo := 0) (n := (3 : Int).toNat) (fun i H' => ∃ (n' : Nat) (rs : List Nat), n ≤ n' ∧ n' ≤ n + i ∧ Bk (D :: M) H' s bk b0 b1 n' ∧ Adv [s, b0, b1] H H' ∧ H' D = some (.lst (nV rs)) ∧ rs.length = i ∧ ∀ r ∈ rs, r < n')
      ⟨n, [], Nat.le_refl _, Nat.le_refl _, B.fresh nD, Adv.new nD, upd_same, rfl, by simp⟩ ?_ ?_
    · rintro i H' hi ⟨n', rs, h1, h2, B1, a1, hD, hrl, hrs⟩
      have hi3 : i < 3 := hi
      refine ⟨rfl, yes_if ?_⟩
      refine iteY rfl ?_
      refine ⟨_, rfl, _, rfl, _, rfl, D :: M, s, bk, b0, b1, n', letters, rfl, B1, hl0, hl1, by omega, fun r n2 H2 g1 g2 g3 B2 a2 => ?_⟩
      have hD2 := a2 _ _ nDm hD
      refine ⟨_, hD2, by rw [List.length_map, sizeLine_eq]; omega, n2, rs ++ [r], by omega, by omega, B2.put nDs nD0 nD1, (a1.trans a2).mut nD, ?_, by rw [List.length_append, List.length_singleton, hrl], ?_⟩
      · rw [upd_same, nV, nV, List.map_append]
        rfl
      · intro x hx
        rcases List.mem_append.mp hx with hx | hx
        · have := hrs x hx; omega
        · rw [List.mem_singleton.mp hx]; exact g1
    · rintro H1 ⟨n1, rs1, h1, h2, B1, a1, hD1, hrl1, hrs1⟩
      have h23 : (3 : Int).toNat = 3 := rfl
      -- for k in range(many)
      refine ⟨_, rfl, many, rfl, by omega, by omega, ?_⟩
      refine for_range (lo := 0) (n := many.toNat) (fun i σ' H' => ∃ (n' : Nat) (rs : List Nat) (x5 x7 x8 x9 : Option V), σ' = [some (.ref s), some (.ref bk), some (.int letters), some (.int many), some (.bl boxed), x5, some (.ref D), x7, x8, x9] ∧ n ≤ n' ∧ n' ≤ n + 3 + i ∧ Bk (D :: M) H' s bk b0 b1 n' ∧ Adv [s, b0, b1] H H' ∧ H' D = some (.lst (nV rs)) ∧ rs.length = 3 + i ∧ ∀ r ∈ rs, r < n')
        ⟨n1, rs1, none, none, none, none, rfl, h1, by omega, B1, a1, hD1, by omega, hrs1⟩ ?_ ?_
      · rintro i σ' H' hi ⟨n', rs, x5, x7, x8, x9, rfl, h1, h2, B1, a1, hD, hrl, hrs⟩
        refine ⟨_, rfl, _, rfl, D, _, rfl, .inl (SqL.of hD), _, 1, rfl, rfl, _, rfl, s, 3, D :: M, rfl, B1.str, by decide, by decide, fun d H2 d0 d1 hs2 a2 => ?_⟩
        have B2 := B1.next a2 hs2
        have hD2 := a2 _ _ (by simpa using nDs) hD
        obtain ⟨e, he⟩ : ∃ e : Nat, ((nV rs).length : Int) - 1 - d = (e : Int) := ⟨(((nV rs).length : Int) - 1 - d).toNat, by rw [List.length_map]; omega⟩
        have hel : e < rs.length := by rw [List.length_map] at he; omega
        have hg : (nV rs)[e]? = some (.int (rs[e] : Nat)) := by simp [hel]
        refine ⟨_, d, rfl, rfl, D, _, _, _, rfl, rfl, SqL.of hD2, by rw [he]; exact atI_nat hg, ?_⟩
        -- other = pick(stream, rows)
        refine ⟨_, rfl, _, rfl, s, D, nV rs, D :: M, rfl, hs2, .inl hD2, nDs, by intro z; have := congrArg List.length z; rw [List.length_map, List.length_nil] at this; omega, by rw [List.length_map]; omega, fun ov H3 hov hs3 a3 => ?_⟩
        obtain ⟨o, ho, rfl⟩ := List.mem_map.mp hov
        have B3 := B2.next a3 hs3
        have hD3 := a3 _ _ (by simpa using nDs) hD2
        have a13 : Adv [s, b0, b1] H H3 := (a1.trans a2.one).trans a3.one
        -- what is left of the turn
        have fin : ∀ (y7 y8 y9 : Option V) (r6 n6 : Nat) (H6 : Hp), r6 < n6 → n' ≤ n6 → n6 ≤ n' + 1 → Bk (D :: M) H6 s bk b0 b1 n6 → Adv [s, b0, b1] H H6 → H6 D = some (.lst (nV rs)) →
            ∃ (n' : Nat) (rs' : List Nat) (x5 x7 x8 x9 : Option V), [some (V.ref s), some (.ref bk), some (.int letters), some (.int many), some (.bl boxed), some (.int (0 + (i : Nat))), some (.ref D), y7, y8, y9] = [some (.ref s), some (.ref bk), some (.int letters), some (.int many), some (.bl boxed), x5, some (.ref D), x7, x8, x9] ∧ n ≤ n' ∧ n' ≤ n + 3 + (i + 1) ∧ Bk (D :: M) (upd H6 D (.lst (nV rs ++ [V.int (r6 : Nat)]))) s bk b0 b1 n' ∧ Adv [s, b0, b1] H (upd H6 D (.lst (nV rs ++ [V.int (r6 : Nat)]))) ∧ (upd H6 D (.lst (nV rs ++ [V.int (r6 : Nat)]))) D = some (.lst (nV rs')) ∧ rs'.length = 3 + (i + 1) ∧ ∀ r ∈ rs', r < n' :=
          fun y7 y8 y9 r6 n6 H6 g1 g2 g3 B6 a6 hD6 => ⟨n6, rs ++ [r6], _, _, _, _, rfl, by omega, by omega, B6.put nDs nD0 nD1, a6.mut nD, by rw [upd_same, nV, nV, List.map_append]; rfl, by rw [List.length_append, List.length_singleton, hrl]; omega, fun x hx => by
            rcases List.mem_append.mp hx with hx | hx
            · have := hrs x hx; omega
            · rw [List.mem_singleton.mp hx]; exact g1⟩
        -- word = pick(..)
        refine ⟨_, rfl, _, rfl, _, rfl, ?_⟩
        have word : ∀ (ws : List Str) (p : Addr), H3 p = none → ws ≠ [] → ws.length ≤ 10 → spPick [.ref s, .ref p] (upd H3 p (.tup (ws.map V.str))) (fun x H1 => gName 9 x [some (.ref s), some (.ref bk), some (.int letters), some (.int many), some (.bl boxed), some (.int (0 + (i : Nat))), some (.ref D), some (.int (rs[e] : Nat)), some (.int (o : Nat)), x9] H1
            (tIfS (tTest (tOp rEq (tVar 9) (tC (.str "box")))) (tDrop (tBM K "list" rAppend (tVar 6) (tCons (tCall spRow [] E0 (tCons (tVar 1) (tCons (tTup (tCons (tC (.str "box")) (tCons (tVar 7) tNil))) tNil))) tNil)))
              (tDrop (tBM K "list" rAppend (tVar 6) (tCons (tCall spRow [] E0 (tCons (tVar 1) (tCons (tIf (tTest (tOp rEq (tCall spNext [] E0 (tCons (tVar 0) (tCons (tC (.int 2)) tNil))) (tC (.int 0)))) (tTup (tCons (tVar 9) (tCons (tVar 8) (tCons (tVar 7) tNil)))) (tTup (tCons (tVar 9) (tCons (tVar 7) (tCons (tVar 8) tNil))))) tNil))) tNil)))
              { nx := fun σ' H' => ∃ (n' : Nat) (rs : List Nat) (x5 x7 x8 x9 : Option V), σ' = [some (.ref s), some (.ref bk), some (.int letters), some (.int many), some (.bl boxed), x5, some (.ref D), x7, x8, x9] ∧ n ≤ n' ∧ n' ≤ n + 3 + (i + 1) ∧ Bk (D :: M) H' s bk b0 b1 n' ∧ Adv [s, b0, b1] H H' ∧ H' D = some (.lst (nV rs)) ∧ rs.length = 3 + (i + 1) ∧ ∀ r ∈ rs, r < n', rt := Q })) E0 := by
          intro ws p np hne hwl
          have B4 := B3.same (Adv.new (o := .tup (ws.map V.str)) np)
          refine ⟨s, p, ws.map V.str, D :: M, rfl, B4.str, .inr upd_same, (B3.alloc np).1, by simpa using hne, by rw [List.length_map]; omega, fun x H5 hx hs5 a5 => ?_⟩
          obtain ⟨wd, hwd, rfl⟩ := List.mem_map.mp hx
          have B5 := B4.next a5 hs5
          have nDp : D ≠ p := ne_of_none hD3 np
          have hD5 := a5 _ _ (by simpa using nDs) (show (upd H3 p (.tup (ws.map V.str))) D = some (.lst (nV rs)) by rw [upd_ne nDp]; exact hD3)
          have a15 : Adv [s, b0, b1] H H5 := (a13.newT np).trans a5.one
          have ty5 : ∀ H6, H6 D = some (.lst (nV rs)) → tyV K "list" (V.ref D) H6 := fun H6 e => .inl ⟨rfl, _, SqL.of e⟩
          refine ⟨_, rfl, rfl, _, rfl, iteB (fun eb => ?_) (fun eb => ?_)⟩
          · refine ⟨_, rfl, ty5 _ hD5, _, rfl, _, rfl, by show 2 ≤ sizeLine; decide, fun t nt => ?_⟩
            refine ⟨D :: M, s, bk, b0, b1, t, n', [.inr "box", .inl (rs[e] : Nat)], rfl, B5.same (Adv.new nt), upd_same, not_mem_new B5.al nt, by simp, by omega, fun r n6 H6 r1 r2 r3 B6 a6 => ?_⟩
            have nDt : D ≠ t := ne_of_none hD5 nt
            have hD6 := a6 _ _ (by simp [nD0, nD1]) (show (upd H5 t (.tup [V.str "box", .int (rs[e] : Nat)])) D = some (.lst (nV rs)) by rw [upd_ne nDt]; exact hD5)
            refine ⟨D, nV rs, _, rfl, rfl, hD6, by rw [List.length_map, sizeLine_eq]; omega, ?_⟩
            exact fin _ _ _ r n6 H6 r1 r2 r3 B6 ((a15.newT nt).trans a6.two) hD6
          · refine ⟨_, rfl, ty5 _ hD5, _, rfl, _, rfl, s, 2, D :: M, rfl, hs5, by decide, by decide, fun d2 H6 g0 g1 hs6 a6 => ?_⟩
            have B6 := B5.next a6 hs6
            have hD6 := a6 _ _ (by simpa using nDs) hD5
            have a16 : Adv [s, b0, b1] H H6 := a15.trans a6.one
            have put : ∀ (x y : Nat) (t : Addr), H6 t = none → spRow [.ref bk, .ref t] (upd H6 t (.tup [.str wd, .int x, .int y])) (fun x H1 => tNil [some (.ref s), some (.ref bk), some (.int letters), some (.int many), some (.bl boxed), some (.int (0 + (i : Nat))), some (.ref D), some (.int (rs[e] : Nat)), some (.int (o : Nat)), some (.str wd)] H1 fun xs H2 => rAppend (.ref D) (x :: xs) H2 fun _ H3 => (∃ (n' : Nat) (rs' : List Nat) (x5 x7 x8 x9 : Option V), [some (V.ref s), some (.ref bk), some (.int letters), some (.int many), some (.bl boxed), some (.int (0 + (i : Nat))), some (.ref D), some (.int (rs[e] : Nat)), some (.int (o : Nat)), some (.str wd)] = [some (.ref s), some (.ref bk), some (.int letters), some (.int many), some (.bl boxed), x5, some (.ref D), x7, x8, x9] ∧ n ≤ n' ∧ n' ≤ n + 3 + (i + 1) ∧ Bk (D :: M) H3 s bk b0 b1 n' ∧ Adv [s, b0, b1] H H3 ∧ H3 D = some (.lst (nV rs')) ∧ rs'.length = 3 + (i + 1) ∧ ∀ r ∈ rs', r < n')) E0 := by
              intro x y t nt
              refine ⟨D :: M, s, bk, b0, b1, t, n', [.inr wd, .inl x, .inl y], rfl, B6.same (Adv.new nt), upd_same, not_mem_new B6.al nt, by simp, by omega, fun r n7 H7 r1 r2 r3 B7 a7 => ?_⟩
              have nDt : D ≠ t := ne_of_none hD6 nt
              have hD7 := a7 _ _ (by simp [nD0, nD1]) (show (upd H6 t (.tup [V.str wd, .int x, .int y])) D = some (.lst (nV rs)) by rw [upd_ne nDt]; exact hD6)
              refine ⟨D, nV rs, _, rfl, rfl, hD7, by rw [List.length_map, sizeLine_eq]; omega, ?_⟩
              exact fin _ _ _ r n7 H7 r1 r2 r3 B7 ((a16.newT nt).trans a7.two) hD7
            refine ⟨rfl, _, rfl, iteB (fun _ => ?_) (fun _ => ?_)⟩
            · exact ⟨_, rfl, _, rfl, _, rfl, by show 3 ≤ sizeLine; decide, fun t nt => put o rs[e] t nt⟩
            · exact ⟨_, rfl, _, rfl, _, rfl, by show 3 ≤ sizeLine; decide, fun t nt => put rs[e] o t nt⟩
        cases boxed with
        | true => exact iteY rfl ⟨by show 6 ≤ sizeLine; decide, fun p np => word ["and", "or", "if", "if", "box", "box"] p np (by simp) (by simp)⟩
        | false => exact iteN rfl ⟨by show 4 ≤ sizeLine; decide, fun p np => word ["and", "or", "if", "if"] p np (by simp) (by simp)⟩
      · rintro σ' H' ⟨n', rs, x5, x7, x8, x9, rfl, h1, h2, B1, a1, hD, hrl, hrs⟩
        obtain ⟨e, he⟩ : ∃ e : Nat, ((nV rs).length : Int) - 1 = (e : Int) := ⟨(nV rs).length - 1, by rw [List.length_map]; omega⟩
        have hel : e < rs.length := by rw [List.length_map] at he; omega
        have hg : (nV rs)[e]? = some (.int (rs[e] : Nat)) := by simp [hel]
        refine ⟨_, rfl, _, rfl, D, _, rfl, .inl (SqL.of hD), _, 1, rfl, rfl, D, _, _, _, rfl, rfl, SqL.of hD, by rw [he]; exact atI_nat hg, ?_⟩
        exact q rs[e] n' H' (hrs _ (List.getElem_mem hel)) h1 (by omega) (B1.less B.ms B.m0 B.m1) a1
theorem ok_law_formula (A : All K mg w) (m : Nat) : FnOk P w K mg base CX0 (m + 4) A.law_formula.f A.law_formula.fd ["stream", "book", "letters", "many", "boxed"] (spForm m) := by
  refine A.law_formula.F.ok sc_law_formula (fun vs H Q E h => ?_) (fun cdv Ar outer s H vs Q E hr h => ?_)
  · obtain ⟨M, s, bk, b0, b1, n, letters, many, boxed, rfl, _⟩ := h
    rfl
  · obtain ⟨M, s, bk, b0, b1, n, letters, many, boxed, rfl, B, hl0, hl1, hm0, hmm, hm1, hn, q⟩ := h
    refine ⟨_, (pss_cons (ps_if (pt_cmpR op_eq (pe_call (ok_law_next A) (hr.mono (by omega)) rfl A.law_next.m A.law_next.F.kp A.law_next.b .nil pass0 (pa_cons (pv 0) (pa_cons pe_int pa_nil))) pe_int (nomark _))
    (pss_one (ps_ret (pe_call (ok_law_tree A m) (hr.mono (by omega)) rfl A.law_tree.m A.law_tree.F.kp A.law_tree.b .nil pass0 (pa_cons (pv 0) (pa_cons (pv 1) (pa_cons (pv 2) (pa_cons (pv 3) (pa_cons (pv 4) pa_nil))))))))
    pss_nil)
  (pss_one (ps_ret (pe_call (ok_law_heap A (m := m)) (hr.mono (by omega)) rfl A.law_heap.m A.law_heap.F.kp A.law_heap.b .nil pass0 (pa_cons (pv 0) (pa_cons (pv 1) (pa_cons (pv 2) (pa_cons (pv 3) (pa_cons (pv 4) pa_nil))))))))), ?_⟩
    refine ⟨_, rfl, s, 2, M, rfl, B.str, by decide, by decide, fun d H1 d0 d1 hs1 a1 => ?_⟩
    have B1 := B.next a1 hs1
    refine ⟨rfl, _, rfl, iteB (fun e => ?_) (fun e => ?_)⟩
    · exact ⟨_, rfl, _, rfl, _, rfl, _, rfl, _, rfl, M, s, bk, b0, b1, n, letters, many, boxed, rfl, B1, hl0, hl1, hmm, hm1, by omega, fun r n' H' h1 h2 h3 h4 h5 => q r n' H' h1 h2 (by omega) h4 (a1.one.trans h5)⟩
    · exact ⟨_, rfl, _, rfl, _, rfl, _, rfl, _, rfl, M, s, bk, b0, b1, n, letters, many, boxed, rfl, B1, hl0, hl1, hm0, hmm, hm1, hn, fun r n' H' h1 h2 h3 h4 h5 => q r n' H' h1 h2 h3 h4 (a1.one.trans h5)⟩
end
end K01

set_option Elab.async false
set_option linter.all false
set_option maxRecDepth 100000
set_option maxHeartbeats 4000000
namespace K01
open PySem PySem.Spec PyProof.Rows L2 LL
open C8 (pss_cut)
/-- rows S and their table Tb while they are made, beside the stream s -/
structure RawB (M : List Addr) (H : Hp) (s S Tb : Addr) (rs : List V) (ds : List PyData) (kvs : List (List Key × V)) : Prop where
  str : StrAt (Tb :: S :: M) H s
  hS : H S = some (.lst rs)
  hT : H Tb = some (.dT kvs)
  rd : IsDs (Tb :: S :: M) H ds rs
  al : ∀ b ∈ Tb :: S :: M, H b ≠ none
  ms : s ∈ M
  sS : S ≠ s
  sT : Tb ≠ s
theorem RawB.same {M : List Addr} {H H' : Hp} {s S Tb : Addr} {rs : List V} {ds : List PyData} {kvs : List (List Key × V)} (x : RawB M H s S Tb rs ds kvs) (a : Adv [] H H') : RawB M H' s S Tb rs ds kvs :=
  ⟨x.str.same a, a.same _ _ x.hS, a.same _ _ x.hT, x.rd.adv (Adv.nil a), a.alloc x.al, x.ms, x.sS, x.sT⟩
theorem RawB.next {M : List Addr} {H H' : Hp} {s S Tb : Addr} {rs : List V} {ds : List PyData} {kvs : List (List Key × V)} (x : RawB M H s S Tb rs ds kvs) (a : Adv [s] H H') (hs : StrAt (Tb :: S :: M) H' s) : RawB M H' s S Tb rs ds kvs :=
  ⟨hs, a _ _ (by simpa using x.sS) x.hS, a _ _ (by simpa using x.sT) x.hT, x.rd.adv (a.more (by simp [x.ms])), alloc_adv x.al a (by simpa using hs.here), x.ms, x.sS, x.sT⟩
theorem put_len (kvs : List (List Key × V)) (k : List Key) (v : V) : (putK kvs k v).length ≤ kvs.length + 1 := by
  unfold putK
  split
  · rw [List.length_map]; omega
  · rw [List.length_append, List.length_singleton]; exact Nat.le_refl _
/-- new rows at an address of their own -/
def RowsR (M : List Addr) (H : Hp) (s : Addr) (Q : VK) : Prop := ∀ (sh : Addr) (rs : List V) (ds : List PyData) (H' : Hp), StrAt M H' s → Adv [s] H H' → H sh = none → H' sh = some (.lst rs) → IsDs (sh :: M) H' ds rs → ds.length ≤ 200 → (∀ d ∈ ds, Small d) → Q (.ref sh) H'
section
variable {P : Program} {w : World} {K : PySem.W.Frag} {mg : Str → Option Value} {base : Heap}
def spRaw : Sp := fun vs H Q _ => ∃ (M : List Addr) (s : Addr) (many : Int) (boxed : Bool), vs = [.ref s, .int many, .bl boxed] ∧ StrAt M H s ∧ s ∈ M ∧ (∀ b ∈ M, H b ≠ none) ∧ 0 ≤ many ∧ many ≤ 100 ∧ RowsR M H s Q
theorem ok_law_raw (A : All K mg w) : FnOk P w K mg base CX0 3 A.law_raw.f A.law_raw.fd ["stream", "many", "boxed"] spRaw := by
  refine A.law_raw.F.ok sc_law_raw (fun vs H Q E h => ?_) (fun cdv Ar outer s H vs Q E hr h => ?_)
  · obtain ⟨M, s, many, boxed, rfl, _⟩ := h
    rfl
  · obtain ⟨M, s, many, boxed, rfl, hs, ms, hal, hm0, hm1, q⟩ := h
    refine ⟨_, (pss_cons (ps_set (i := 3) sc_law_raw.nd rfl (Or.inl rfl) (pe_lst pa_nil))
  (pss_cons (ps_set (i := 4) sc_law_raw.nd rfl (Or.inl rfl) pe_dnewT)
  (pss_cons (ps_for PassesOwn.never rfl (pi_range1 rfl A.T.range (pa_cons (pv 1) pa_nil)) (pg_name (i := 5) sc_law_raw.nd rfl (Or.inl rfl))
    (pss_cut (ps_set (i := 6) sc_law_raw.nd rfl (Or.inl rfl) (pe_ifExp (pt_cmpR op_eq (pe_call (ok_law_next A) (hr.mono (by omega)) rfl A.law_next.m A.law_next.F.kp A.law_next.b .nil pass0 (pa_cons (pv 0) (pa_cons pe_int pa_nil))) pe_int (nomark _)) (pe_tup (pa_cons pe_str (pa_cons (pe_call (ok_law_next A) (hr.mono (by omega)) rfl A.law_next.m A.law_next.F.kp A.law_next.b .nil pass0 (pa_cons (pv 0) (pa_cons pe_int pa_nil))) pa_nil))) (pe_tup (pa_cons pe_str pa_nil))))
  (pss_cut (ps_if (PW.pt (pw_and (pt_cmpR op_gt (pv 5) pe_int (nomark _)) (pw_and1 (pt_cmpR op_gt (pe_call (ok_law_next A) (hr.mono (by omega)) rfl A.law_next.m A.law_next.F.kp A.law_next.b .nil pass0 (pa_cons (pv 0) (pa_cons pe_int pa_nil))) pe_int (nomark _)))))
    (pss_cons (ps_set (i := 7) sc_law_raw.nd rfl (Or.inl rfl) (pe_call (ok_law_pick A) (hr.mono (by omega)) rfl A.law_pick.m A.law_pick.F.kp A.law_pick.b .nil pass0 (pa_cons (pv 0) (pa_cons (pe_ifExp (pt_val (pv 2)) (pe_tup (pa_cons pe_str (pa_cons pe_str (pa_cons pe_str (pa_cons pe_str pa_nil))))) (pe_tup (pa_cons pe_str (pa_cons pe_str (pa_cons pe_str pa_nil))))) pa_nil))))
  (pss_cons (ps_set (i := 8) sc_law_raw.nd rfl (Or.inl rfl) (pe_call (ok_law_next A) (hr.mono (by omega)) rfl A.law_next.m A.law_next.F.kp A.law_next.b .nil pass0 (pa_cons (pv 0) (pa_cons (pv 5) pa_nil))))
  (pss_one (ps_set (i := 6) sc_law_raw.nd rfl (Or.inl rfl) (pe_ifExp (pt_cmpR op_eq (pv 7) pe_str (nomark _)) (pe_tup (pa_cons pe_str (pa_cons (pv 8) pa_nil))) (pe_tup (pa_cons (pv 7) (pa_cons (pv 8) (pa_cons (pe_call (ok_law_next A) (hr.mono (by omega)) rfl A.law_next.m A.law_next.F.kp A.law_next.b .nil pass0 (pa_cons (pv 0) (pa_cons (pv 5) pa_nil))) pa_nil)))))))))
    pss_nil)
  (pss_cut (ps_if (pt_cmp (pc_din (hu_of hr) (pv 6) (pv 4)))
    (pss_one (ps_set (i := 6) sc_law_raw.nd rfl (Or.inl rfl) (pe_ifExp (pt_cmpR op_gt (pv 5) pe_int (nomark _)) (pe_tup (pa_cons pe_str (pa_cons (pe_op op_sub (pv 5) pe_int) (pa_cons (pe_call (ok_law_next A) (hr.mono (by omega)) rfl A.law_next.m A.law_next.F.kp A.law_next.b .nil pass0 (pa_cons (pv 0) (pa_cons (pv 5) pa_nil))) pa_nil)))) (pe_tup (pa_cons pe_str pa_nil)))))
    pss_nil)
  (pss_cons (ps_dput (hu_of hr) (pv 4) (pv 6) (pv 5) rfl)
  (pss_one (ps_expr (pe_bm PySem.F.plainAttrs_list PySem.F.slot_list_append PySem.F.type_list_append mt_append (pv 3) (pa_cons (pv 6) pa_nil)))))))))
  (pss_one (ps_ret (pv 3)))))), ?_⟩
    refine ⟨Nat.zero_le _, fun S nS => ?_⟩
    intro Tb nT
    have nTS : Tb ≠ S := fun z => by rw [z, upd_same] at nT; cases nT
    have nT0 : H Tb = none := by rw [upd_ne nTS] at nT; exact nT
    have sS : S ≠ s := fun z => hs.here (by rw [← z]; exact nS)
    have sT : Tb ≠ s := fun z => hs.here (by rw [← z]; exact nT0)
    have aI : Adv [] H (upd (upd H S (.lst [])) Tb (.dT [])) := (Adv.new nS).trans (Adv.new nT)
    have R0 : RawB M (upd (upd H S (.lst [])) Tb (.dT [])) s S Tb [] [] [] :=
      ⟨((hs.fresh nS).fresh nT0).same aI, by rw [upd_ne nTS.symm, upd_same], upd_same, .nil, fun b hb => by
        rcases List.mem_cons.mp hb with e | hb
        · rw [e, upd_same]; simp
        · rcases List.mem_cons.mp hb with e | hb
          · rw [e, upd_ne nTS.symm, upd_same]; simp
          · exact aI.alloc hal b hb, ms, sS, sT⟩
    refine ⟨_, rfl, many, rfl, by omega, by omega, ?_⟩
    refine for_range (lo := 0) (n := many.toNat) (fun i σ' H' => ∃ (rs : List V) (ds : List PyData) (kvs : List (List Key × V)) (x5 x6 x7 x8 : Option V), σ' = [some (.ref s), some (.int many), some (.bl boxed), some (.ref S), some (.ref Tb), x5, x6, x7, x8] ∧ RawB M H' s S Tb rs ds kvs ∧ Adv [s] H H' ∧ ds.length = i ∧ kvs.length ≤ i ∧ ∀ d ∈ ds, Small d)
      ⟨[], [], [], none, none, none, none, rfl, R0, Adv.nil aI, rfl, Nat.le_refl _, by simp⟩ ?_ ?_
    · rintro i σ' H' hi ⟨rs, ds, kvs, x5, x6, x7, x8, rfl, R, a', hdl, hkl, hsm⟩
      have e0 : (0 : Int) + (i : Nat) = (i : Int) := by omega
      rw [e0]
      have hi100 : i < 100 := by omega
      -- what holds of node between the statements
      let Mid : L2.St → Hp → Prop := fun σ'' H1 => ∃ (nd : Addr) (ks : List Key) (y7 y8 : Option V), σ'' = [some (.ref s), some (.int many), some (.bl boxed), some (.ref S), some (.ref Tb), some (.int (i : Nat)), some (.ref nd), y7, y8] ∧
          RawB M H1 s S Tb rs ds kvs ∧ Adv [s] H H1 ∧ H1 nd = some (.tup (ks.map kV)) ∧ nd ∉ Tb :: S :: M ∧ ks.length ≤ 3
      have mid : ∀ (x7 x8 : Option V) (t : Addr) (ks : List Key) (H1 : Hp), RawB M H1 s S Tb rs ds kvs → Adv [s] H H1 → H1 t = none → ks.length ≤ 3 → Mid [some (V.ref s), some (.int many), some (.bl boxed), some (.ref S), some (.ref Tb), some (.int (i : Nat)), some (.ref t), x7, x8] (upd H1 t (.tup (ks.map kV))) :=
        fun x7 x8 t ks H1 R1 a1 nt hk => ⟨t, ks, x7, x8, rfl, R1.same (Adv.new nt), a1.newT nt, upd_same, not_mem_new R1.al nt, hk⟩
      -- node = ..
      refine ⟨Mid, ?_, ?_⟩
      · refine ⟨_, rfl, s, 3, Tb :: S :: M, rfl, R.str, by decide, by decide, fun d H1 d0 d1 hs1 a1 => ?_⟩
        have R1 := R.next a1 hs1
        have a01 := a'.trans a1
        refine ⟨rfl, _, rfl, iteB (fun e => ?_) (fun e => ?_)⟩
        · refine ⟨_, rfl, s, 8, Tb :: S :: M, rfl, hs1, by decide, by decide, fun d2 H2 g0 g1 hs2 a2 => ?_⟩
          exact ⟨by show 2 ≤ sizeLine; decide, fun t nt => mid _ _ t [.inr "letter", .inl d2] H2 (R1.next a2 hs2) (a01.trans a2) nt (by simp)⟩
        · exact ⟨by show 1 ≤ sizeLine; decide, fun t nt => mid _ _ t [.inr "no"] H1 R1 a01 nt (by simp)⟩
      · rintro σ'' H1 ⟨nd, ks, y7, y8, rfl, R1, a1, hnd, hnM, hks⟩
        -- if at > 0 and next > 0
        refine ⟨Mid, ?_, ?_⟩
        · refine ⟨_, rfl, (i : Int), 0, rfl, rfl, _, rfl, ?_⟩
          by_cases h0 : 0 < i
          case neg =>
            exact iteN (decide_eq_false (by omega)) (iteN rfl ⟨nd, ks, y7, y8, rfl, R1, a1, hnd, hnM, hks⟩)
          refine iteY (decide_eq_true (by omega)) ?_
          refine ⟨_, rfl, s, 6, Tb :: S :: M, rfl, R1.str, by decide, by decide, fun d H2 d0 d1 hs2 a2 => ?_⟩
          have R2 := R1.next a2 hs2
          have a02 := a1.trans a2
          have hnd2 : H2 nd = some (.tup (ks.map kV)) := a2 _ _ (fun z => hnM (by rw [List.mem_singleton.mp z]; simp [R1.ms])) hnd
          refine ⟨d, 0, rfl, rfl, _, rfl, iteB (fun e => ?_) (fun e => ⟨nd, ks, y7, y8, rfl, R2, a02, hnd2, hnM, hks⟩)⟩
          -- word = pick
          refine ⟨_, rfl, _, rfl, _, rfl, ?_⟩
          have word : ∀ (rt : VK) (bk ct : L2.St → Hp → Prop) (ws : List Str) (p : Addr), H2 p = none → ws ≠ [] → ws.length ≤ 10 → spPick [.ref s, .ref p] (upd H2 p (.tup (ws.map V.str))) (fun x H1 => gName 7 x [some (.ref s), some (.int many), some (.bl boxed), some (.ref S), some (.ref Tb), some (.int (i : Nat)), some (.ref nd), y7, y8] H1
              (tSeq (tAsg (tCall spNext [] E0 (tCons (tVar 0) (tCons (tVar 5) tNil))) (gName 8)) (tAsg (tIf (tTest (tOp rEq (tVar 7) (tC (.str "box")))) (tTup (tCons (tC (.str "box")) (tCons (tVar 8) tNil))) (tTup (tCons (tVar 7) (tCons (tVar 8) (tCons (tCall spNext [] E0 (tCons (tVar 0) (tCons (tVar 5) tNil))) tNil))))) (gName 6)) { nx := Mid, rt := rt, bk := bk, ct := ct })) E0 := by
            intro rt bk ct ws p np hne hwl
            have R3 := R2.same (Adv.new (o := .tup (ws.map V.str)) np)
            refine ⟨s, p, ws.map V.str, Tb :: S :: M, rfl, R3.str, .inr upd_same, fun z => hs2.here (by rw [← z]; exact np), by simpa using hne, by rw [List.length_map]; omega, fun x H5 hx hs5 a5 => ?_⟩
            obtain ⟨wd, hwd, rfl⟩ := List.mem_map.mp hx
            have R5 := R3.next a5 hs5
            have a05 : Adv [s] H H5 := (a02.newT np).trans a5
            refine ⟨_, rfl, _, rfl, s, (i : Int), Tb :: S :: M, rfl, hs5, by omega, by omega, fun j H6 j0 j1 hs6 a6 => ?_⟩
            have R6 := R5.next a6 hs6
            have a06 := a05.trans a6
            refine ⟨_, rfl, rfl, _, rfl, iteB (fun e => ?_) (fun e => ?_)⟩
            · exact ⟨_, rfl, by show 2 ≤ sizeLine; decide, fun t nt => mid _ _ t [.inr "box", .inl j] H6 R6 a06 nt (by simp)⟩
            · refine ⟨_, rfl, _, rfl, _, rfl, _, rfl, s, (i : Int), Tb :: S :: M, rfl, hs6, by omega, by omega, fun k H7 k0 k1 hs7 a7 => ?_⟩
              exact ⟨by show 3 ≤ sizeLine; decide, fun t nt => mid _ _ t [.inr wd, .inl j, .inl k] H7 (R6.next a7 hs7) (a06.trans a7) nt (by simp)⟩
          cases boxed with
          | true => exact iteY rfl ⟨by show 4 ≤ sizeLine; decide, fun p np => word _ _ _ ["and", "or", "if", "box"] p np (by simp) (by simp)⟩
          | false => exact iteN rfl ⟨by show 3 ≤ sizeLine; decide, fun p np => word _ _ _ ["and", "or", "if"] p np (by simp) (by simp)⟩
        · rintro σ'' H1 ⟨nd, ks, y7, y8, rfl, R1, a1, hnd, hnM, hks⟩
          -- if node in table
          refine ⟨Mid, ?_, ?_⟩
          · refine ⟨_, rfl, _, rfl, Tb, _, rfl, DGet.t R1.hT hnd, _, rfl, iteB (fun e => ?_) (fun e => ⟨nd, ks, y7, y8, rfl, R1, a1, hnd, hnM, hks⟩)⟩
            refine ⟨_, rfl, (i : Int), 0, rfl, rfl, _, rfl, iteB (fun e1 => ?_) (fun e1 => ?_)⟩
            · have h0 : (0 : Int) < i := of_decide_eq_true e1
              refine ⟨_, rfl, _, 1, rfl, rfl, _, rfl, _, rfl, s, (i : Int), Tb :: S :: M, rfl, R1.str, h0, by omega, fun k H7 k0 k1 hs7 a7 => ?_⟩
              exact ⟨by show 3 ≤ sizeLine; decide, fun t nt => mid _ _ t [.inr "if", .inl ((i : Int) - 1), .inl k] H7 (R1.next a7 hs7) (a1.trans a7) nt (by simp)⟩
            · exact ⟨by show 1 ≤ sizeLine; decide, fun t nt => mid _ _ t [.inr "no"] H1 R1 a1 nt (by simp)⟩
          · rintro σ'' H1 ⟨nd, ks, y7, y8, rfl, R1, a1, hnd, hnM, hks⟩
            -- table[node] = at; sheet.append(node)
            refine ⟨_, rfl, _, rfl, _, rfl, Tb, _, rfl, DPut.t R1.hT hnd (by rw [sizeLine_eq]; omega), ?_⟩
            have nTS' : S ≠ Tb := nTS.symm
            have ndT : nd ≠ Tb := fun z => hnM (by rw [z]; simp)
            have ndS : nd ≠ S := fun z => hnM (by rw [z]; simp)
            have hS1 : (upd H1 Tb (.dT (putK kvs ks (V.int (i : Nat))))) S = some (.lst rs) := by rw [upd_ne nTS']; exact R1.hS
            have hrl : rs.length = ds.length := R1.rd.len
            refine ⟨_, rfl, .inl ⟨rfl, _, SqL.of hS1⟩, _, rfl, S, rs, _, rfl, rfl, hS1, by rw [sizeLine_eq]; omega, ?_⟩
            have aa : Adv [Tb, S] H1 (upd (upd H1 Tb (.dT (putK kvs ks (V.int (i : Nat))))) S (.lst (rs ++ [.ref nd]))) := (Adv.set (by simp)).trans (Adv.set (by simp))
            have sub : ∀ b ∈ [Tb, S], b ∈ Tb :: S :: M := fun b hb => by simp at hb; rcases hb with h | h <;> simp [h]
            have hT2 : (upd (upd H1 Tb (.dT (putK kvs ks (V.int (i : Nat))))) S (.lst (rs ++ [.ref nd]))) Tb = some (.dT (putK kvs ks (V.int (i : Nat)))) := by rw [upd_ne nTS, upd_same]
            refine ⟨rs ++ [.ref nd], ds ++ [.tuple (ks.map keyDt)], putK kvs ks (V.int (i : Nat)), _, _, _, _, rfl, ⟨R1.str.adv aa (by simp [sS.symm, sT.symm]) sub, upd_same, hT2, ?_, alloc_adv R1.al aa (fun b hb => ?_), R1.ms, sS, sT⟩, (a1.mut nT0).mut nS, by rw [List.length_append, List.length_singleton, hdl], by have := put_len kvs ks (V.int (i : Nat)); omega, fun d hd => ?_⟩
            · have hnd2 := aa _ _ (by simp [ndT, ndS]) hnd
              exact (R1.rd.adv (aa.more sub)).app (IsDs.one (nd_data hnd2 hnM))
            · simp at hb
              rcases hb with h | h
              · rw [h, hT2]; simp
              · rw [h, upd_same]; simp
            · rcases List.mem_append.mp hd with hd | hd
              · exact hsm d hd
              · rw [List.mem_singleton.mp hd]; exact nd_small hks
    · rintro σ' H' ⟨rs, ds, kvs, x5, x6, x7, x8, rfl, R, a', hdl, hkl, hsm⟩
      refine ⟨_, rfl, ?_⟩
      refine q S rs ds H' (R.str.less (by simp +contextual)) a' nS R.hS (R.rd.less (by simp +contextual)) (by omega) hsm
end
end K01

set_option Elab.async false
set_option linter.all false
set_option maxRecDepth 100000
set_option maxHeartbeats 4000000
namespace K01
open PySem PySem.Spec PyProof.Rows L2 LL
def wdD1 (n : Int) : List PyData := [(.tuple [(.str (PySem.Str.ofString "letter")), (.int 8)]), (.tuple [(.str (PySem.Str.ofString "letter")), (.int (-1))]), (.tuple [(.str (PySem.Str.ofString "letter")), (.int 7)]), (.tuple [(.str (PySem.Str.ofString "letter")), (.int 0)]), (.tuple [(.str (PySem.Str.ofString "letter")), (.bool true)]), (.tuple [(.str (PySem.Str.ofString "letter")), (.str (PySem.Str.ofString "0"))]), (.tuple [(.str (PySem.Str.ofString "letter"))]), (.tuple [(.str (PySem.Str.ofString "letter")), (.int 0), (.int 0)]), (.tuple [(.str (PySem.Str.ofString "no"))]), (.tuple [(.str (PySem.Str.ofString "no")), (.int 0)]), (.tuple [(.str (PySem.Str.ofString "no")), .none])]
theorem wd1_0 {K : PySem.W.Frag} {σ : L2.St} {n : Int} (h : σ[2]? = some (some (.int n))) : DE (tTup (tCons (tC (.str (PySem.Str.ofString "letter"))) (tCons (tC (.int 8)) tNil))) σ (.tuple [(.str (PySem.Str.ofString "letter")), (.int 8)]) := (de_tup (da_cons de_str (da_cons de_int da_nil)) (by simp))
theorem wd1_1 {K : PySem.W.Frag} {σ : L2.St} {n : Int} (h : σ[2]? = some (some (.int n))) : DE (tTup (tCons (tC (.str (PySem.Str.ofString "letter"))) (tCons (tUn (rU fun i => .int (-i)) (tC (.int 1))) tNil))) σ (.tuple [(.str (PySem.Str.ofString "letter")), (.int (-1))]) := (de_tup (da_cons de_str (da_cons de_neg da_nil)) (by simp))
theorem wd1_2 {K : PySem.W.Frag} {σ : L2.St} {n : Int} (h : σ[2]? = some (some (.int n))) : DE (tTup (tCons (tC (.str (PySem.Str.ofString "letter"))) (tCons (tC (.int 7)) tNil))) σ (.tuple [(.str (PySem.Str.ofString "letter")), (.int 7)]) := (de_tup (da_cons de_str (da_cons de_int da_nil)) (by simp))
theorem wd1_3 {K : PySem.W.Frag} {σ : L2.St} {n : Int} (h : σ[2]? = some (some (.int n))) : DE (tTup (tCons (tC (.str (PySem.Str.ofString "letter"))) (tCons (tC (.int 0)) tNil))) σ (.tuple [(.str (PySem.Str.ofString "letter")), (.int 0)]) := (de_tup (da_cons de_str (da_cons de_int da_nil)) (by simp))
theorem wd1_4 {K : PySem.W.Frag} {σ : L2.St} {n : Int} (h : σ[2]? = some (some (.int n))) : DE (tTup (tCons (tC (.str (PySem.Str.ofString "letter"))) (tCons (tC (.bl true)) tNil))) σ (.tuple [(.str (PySem.Str.ofString "letter")), (.bool true)]) := (de_tup (da_cons de_str (da_cons de_bl da_nil)) (by simp))
theorem wd1_5 {K : PySem.W.Frag} {σ : L2.St} {n : Int} (h : σ[2]? = some (some (.int n))) : DE (tTup (tCons (tC (.str (PySem.Str.ofString "letter"))) (tCons (tC (.str (PySem.Str.ofString "0"))) tNil))) σ (.tuple [(.str (PySem.Str.ofString "letter")), (.str (PySem.Str.ofString "0"))]) := (de_tup (da_cons de_str (da_cons de_str da_nil)) (by simp))
theorem wd1_6 {K : PySem.W.Frag} {σ : L2.St} {n : Int} (h : σ[2]? = some (some (.int n))) : DE (tTup (tCons (tC (.str (PySem.Str.ofString "letter"))) tNil)) σ (.tuple [(.str (PySem.Str.ofString "letter"))]) := (de_tup (da_cons de_str da_nil) (by simp))
theorem wd1_7 {K : PySem.W.Frag} {σ : L2.St} {n : Int} (h : σ[2]? = some (some (.int n))) : DE (tTup (tCons (tC (.str (PySem.Str.ofString "letter"))) (tCons (tC (.int 0)) (tCons (tC (.int 0)) tNil)))) σ (.tuple [(.str (PySem.Str.ofString "letter")), (.int 0), (.int 0)]) := (de_tup (da_cons de_str (da_cons de_int (da_cons de_int da_nil))) (by simp))
theorem wd1_8 {K : PySem.W.Frag} {σ : L2.St} {n : Int} (h : σ[2]? = some (some (.int n))) : DE (tTup (tCons (tC (.str (PySem.Str.ofString "no"))) tNil)) σ (.tuple [(.str (PySem.Str.ofString "no"))]) := (de_tup (da_cons de_str da_nil) (by simp))
theorem wd1_9 {K : PySem.W.Frag} {σ : L2.St} {n : Int} (h : σ[2]? = some (some (.int n))) : DE (tTup (tCons (tC (.str (PySem.Str.ofString "no"))) (tCons (tC (.int 0)) tNil))) σ (.tuple [(.str (PySem.Str.ofString "no")), (.int 0)]) := (de_tup (da_cons de_str (da_cons de_int da_nil)) (by simp))
theorem wd1_10 {K : PySem.W.Frag} {σ : L2.St} {n : Int} (h : σ[2]? = some (some (.int n))) : DE (tTup (tCons (tC (.str (PySem.Str.ofString "no"))) (tCons (tC .non) tNil))) σ (.tuple [(.str (PySem.Str.ofString "no")), .none]) := (de_tup (da_cons de_str (da_cons de_non da_nil)) (by simp))
theorem wd1 {K : PySem.W.Frag} {σ : L2.St} {n : Int} (h : σ[2]? = some (some (.int n))) : DE (tLst (tCons (tTup (tCons (tC (.str (PySem.Str.ofString "letter"))) (tCons (tC (.int 8)) tNil))) (tCons (tTup (tCons (tC (.str (PySem.Str.ofString "letter"))) (tCons (tUn (rU fun i => .int (-i)) (tC (.int 1))) tNil))) (tCons (tTup (tCons (tC (.str (PySem.Str.ofString "letter"))) (tCons (tC (.int 7)) tNil))) (tCons (tTup (tCons (tC (.str (PySem.Str.ofString "letter"))) (tCons (tC (.int 0)) tNil))) (tCons (tTup (tCons (tC (.str (PySem.Str.ofString "letter"))) (tCons (tC (.bl true)) tNil))) (tCons (tTup (tCons (tC (.str (PySem.Str.ofString "letter"))) (tCons (tC (.str (PySem.Str.ofString "0"))) tNil))) (tCons (tTup (tCons (tC (.str (PySem.Str.ofString "letter"))) tNil)) (tCons (tTup (tCons (tC (.str (PySem.Str.ofString "letter"))) (tCons (tC (.int 0)) (tCons (tC (.int 0)) tNil)))) (tCons (tTup (tCons (tC (.str (PySem.Str.ofString "no"))) tNil)) (tCons (tTup (tCons (tC (.str (PySem.Str.ofString "no"))) (tCons (tC (.int 0)) tNil))) (tCons (tTup (tCons (tC (.str (PySem.Str.ofString "no"))) (tCons (tC .non) tNil))) tNil)))))))))))) σ (.list (wdD1 n)) := de_lst (da_cons (wd1_0 (K := K) h) (da_cons (wd1_1 (K := K) h) (da_cons (wd1_2 (K := K) h) (da_cons (wd1_3 (K := K) h) (da_cons (wd1_4 (K := K) h) (da_cons (wd1_5 (K := K) h) (da_cons (wd1_6 (K := K) h) (da_cons (wd1_7 (K := K) h) (da_cons (wd1_8 (K := K) h) (da_cons (wd1_9 (K := K) h) (da_cons (wd1_10 (K := K) h) da_nil))))))))))) (by simp [wdD1])
theorem wd1_small (n : Int) : ∀ d ∈ wdD1 n, sz d ≤ 10 ∧ dep d ≤ 3 := by simp [wdD1, sz_tup, sz_lst, szL_cons, szL_nil, dep_tup, dep_lst, depL_cons, depL_nil, sz1_int, sz1_str, sz1_bool, sz1_none, sz1_dict, dep1_int, dep1_str, dep1_bool, dep1_none, dep1_dict, List.replicate]
theorem wd1_len (n : Int) : (wdD1 n).length = 11 := rfl
def wdD2 (n : Int) : List PyData := [(.tuple [(.str (PySem.Str.ofString "and")), (.int n), (.int 0)]), (.tuple [(.str (PySem.Str.ofString "or")), (.int 0), (.int n)]), (.tuple [(.str (PySem.Str.ofString "if")), (.int (n + 1)), (.int n)]), (.tuple [(.str (PySem.Str.ofString "and")), (.int (-1)), (.int 0)]), (.tuple [(.str (PySem.Str.ofString "or")), (.int 0), (.int (-1))]), (.tuple [(.str (PySem.Str.ofString "if")), (.int 0), (.int (n - 1))]), (.tuple [(.str (PySem.Str.ofString "and")), (.int (n - 1)), (.int (n - 1))]), (.tuple [(.str (PySem.Str.ofString "box")), (.int n)]), (.tuple [(.str (PySem.Str.ofString "box")), (.int (n - 1))]), (.tuple [(.str (PySem.Str.ofString "box")), (.int (-1))])]
theorem wd2_0 {K : PySem.W.Frag} {σ : L2.St} {n : Int} (h : σ[2]? = some (some (.int n))) : DE (tTup (tCons (tC (.str (PySem.Str.ofString "and"))) (tCons (tVar 2) (tCons (tC (.int 0)) tNil)))) σ (.tuple [(.str (PySem.Str.ofString "and")), (.int n), (.int 0)]) := (de_tup (da_cons de_str (da_cons (de_var h) (da_cons de_int da_nil))) (by simp))
theorem wd2_1 {K : PySem.W.Frag} {σ : L2.St} {n : Int} (h : σ[2]? = some (some (.int n))) : DE (tTup (tCons (tC (.str (PySem.Str.ofString "or"))) (tCons (tC (.int 0)) (tCons (tVar 2) tNil)))) σ (.tuple [(.str (PySem.Str.ofString "or")), (.int 0), (.int n)]) := (de_tup (da_cons de_str (da_cons de_int (da_cons (de_var h) da_nil))) (by simp))
theorem wd2_2 {K : PySem.W.Frag} {σ : L2.St} {n : Int} (h : σ[2]? = some (some (.int n))) : DE (tTup (tCons (tC (.str (PySem.Str.ofString "if"))) (tCons (tOp (rI0 fun i j => .int (i + j)) (tVar 2) (tC (.int 1))) (tCons (tVar 2) tNil)))) σ (.tuple [(.str (PySem.Str.ofString "if")), (.int (n + 1)), (.int n)]) := (de_tup (da_cons de_str (da_cons (de_varop (f := fun i j => i + j) h) (da_cons (de_var h) da_nil))) (by simp))
theorem wd2_3 {K : PySem.W.Frag} {σ : L2.St} {n : Int} (h : σ[2]? = some (some (.int n))) : DE (tTup (tCons (tC (.str (PySem.Str.ofString "and"))) (tCons (tUn (rU fun i => .int (-i)) (tC (.int 1))) (tCons (tC (.int 0)) tNil)))) σ (.tuple [(.str (PySem.Str.ofString "and")), (.int (-1)), (.int 0)]) := (de_tup (da_cons de_str (da_cons de_neg (da_cons de_int da_nil))) (by simp))
theorem wd2_4 {K : PySem.W.Frag} {σ : L2.St} {n : Int} (h : σ[2]? = some (some (.int n))) : DE (tTup (tCons (tC (.str (PySem.Str.ofString "or"))) (tCons (tC (.int 0)) (tCons (tUn (rU fun i => .int (-i)) (tC (.int 1))) tNil)))) σ (.tuple [(.str (PySem.Str.ofString "or")), (.int 0), (.int (-1))]) := (de_tup (da_cons de_str (da_cons de_int (da_cons de_neg da_nil))) (by simp))
theorem wd2_5 {K : PySem.W.Frag} {σ : L2.St} {n : Int} (h : σ[2]? = some (some (.int n))) : DE (tTup (tCons (tC (.str (PySem.Str.ofString "if"))) (tCons (tC (.int 0)) (tCons (tOp (rI0 fun i j => .int (i - j)) (tVar 2) (tC (.int 1))) tNil)))) σ (.tuple [(.str (PySem.Str.ofString "if")), (.int 0), (.int (n - 1))]) := (de_tup (da_cons de_str (da_cons de_int (da_cons (de_varop (f := fun i j => i - j) h) da_nil))) (by simp))
theorem wd2_6 {K : PySem.W.Frag} {σ : L2.St} {n : Int} (h : σ[2]? = some (some (.int n))) : DE (tTup (tCons (tC (.str (PySem.Str.ofString "and"))) (tCons (tOp (rI0 fun i j => .int (i - j)) (tVar 2) (tC (.int 1))) (tCons (tOp (rI0 fun i j => .int (i - j)) (tVar 2) (tC (.int 1))) tNil)))) σ (.tuple [(.str (PySem.Str.ofString "and")), (.int (n - 1)), (.int (n - 1))]) := (de_tup (da_cons de_str (da_cons (de_varop (f := fun i j => i - j) h) (da_cons (de_varop (f := fun i j => i - j) h) da_nil))) (by simp))
theorem wd2_7 {K : PySem.W.Frag} {σ : L2.St} {n : Int} (h : σ[2]? = some (some (.int n))) : DE (tTup (tCons (tC (.str (PySem.Str.ofString "box"))) (tCons (tVar 2) tNil))) σ (.tuple [(.str (PySem.Str.ofString "box")), (.int n)]) := (de_tup (da_cons de_str (da_cons (de_var h) da_nil)) (by simp))
theorem wd2_8 {K : PySem.W.Frag} {σ : L2.St} {n : Int} (h : σ[2]? = some (some (.int n))) : DE (tTup (tCons (tC (.str (PySem.Str.ofString "box"))) (tCons (tOp (rI0 fun i j => .int (i - j)) (tVar 2) (tC (.int 1))) tNil))) σ (.tuple [(.str (PySem.Str.ofString "box")), (.int (n - 1))]) := (de_tup (da_cons de_str (da_cons (de_varop (f := fun i j => i - j) h) da_nil)) (by simp))
theorem wd2_9 {K : PySem.W.Frag} {σ : L2.St} {n : Int} (h : σ[2]? = some (some (.int n))) : DE (tTup (tCons (tC (.str (PySem.Str.ofString "box"))) (tCons (tUn (rU fun i => .int (-i)) (tC (.int 1))) tNil))) σ (.tuple [(.str (PySem.Str.ofString "box")), (.int (-1))]) := (de_tup (da_cons de_str (da_cons de_neg da_nil)) (by simp))
theorem wd2 {K : PySem.W.Frag} {σ : L2.St} {n : Int} (h : σ[2]? = some (some (.int n))) : DE (tLst (tCons (tTup (tCons (tC (.str (PySem.Str.ofString "and"))) (tCons (tVar 2) (tCons (tC (.int 0)) tNil)))) (tCons (tTup (tCons (tC (.str (PySem.Str.ofString "or"))) (tCons (tC (.int 0)) (tCons (tVar 2) tNil)))) (tCons (tTup (tCons (tC (.str (PySem.Str.ofString "if"))) (tCons (tOp (rI0 fun i j => .int (i + j)) (tVar 2) (tC (.int 1))) (tCons (tVar 2) tNil)))) (tCons (tTup (tCons (tC (.str (PySem.Str.ofString "and"))) (tCons (tUn (rU fun i => .int (-i)) (tC (.int 1))) (tCons (tC (.int 0)) tNil)))) (tCons (tTup (tCons (tC (.str (PySem.Str.ofString "or"))) (tCons (tC (.int 0)) (tCons (tUn (rU fun i => .int (-i)) (tC (.int 1))) tNil)))) (tCons (tTup (tCons (tC (.str (PySem.Str.ofString "if"))) (tCons (tC (.int 0)) (tCons (tOp (rI0 fun i j => .int (i - j)) (tVar 2) (tC (.int 1))) tNil)))) (tCons (tTup (tCons (tC (.str (PySem.Str.ofString "and"))) (tCons (tOp (rI0 fun i j => .int (i - j)) (tVar 2) (tC (.int 1))) (tCons (tOp (rI0 fun i j => .int (i - j)) (tVar 2) (tC (.int 1))) tNil)))) (tCons (tTup (tCons (tC (.str (PySem.Str.ofString "box"))) (tCons (tVar 2) tNil))) (tCons (tTup (tCons (tC (.str (PySem.Str.ofString "box"))) (tCons (tOp (rI0 fun i j => .int (i - j)) (tVar 2) (tC (.int 1))) tNil))) (tCons (tTup (tCons (tC (.str (PySem.Str.ofString "box"))) (tCons (tUn (rU fun i => .int (-i)) (tC (.int 1))) tNil))) tNil))))))))))) σ (.list (wdD2 n)) := de_lst (da_cons (wd2_0 (K := K) h) (da_cons (wd2_1 (K := K) h) (da_cons (wd2_2 (K := K) h) (da_cons (wd2_3 (K := K) h) (da_cons (wd2_4 (K := K) h) (da_cons (wd2_5 (K := K) h) (da_cons (wd2_6 (K := K) h) (da_cons (wd2_7 (K := K) h) (da_cons (wd2_8 (K := K) h) (da_cons (wd2_9 (K := K) h) da_nil)))))))))) (by simp [wdD2])
theorem wd2_small (n : Int) : ∀ d ∈ wdD2 n, sz d ≤ 10 ∧ dep d ≤ 3 := by simp [wdD2, sz_tup, sz_lst, szL_cons, szL_nil, dep_tup, dep_lst, depL_cons, depL_nil, sz1_int, sz1_str, sz1_bool, sz1_none, sz1_dict, dep1_int, dep1_str, dep1_bool, dep1_none, dep1_dict, List.replicate]
theorem wd2_len (n : Int) : (wdD2 n).length = 10 := rfl
def wdD3 (n : Int) : List PyData := [(.tuple [(.str (PySem.Str.ofString "and")), (.int 0)]), (.tuple [(.str (PySem.Str.ofString "or")), (.int 0), (.int 0), (.int 0)]), (.tuple [(.str (PySem.Str.ofString "if"))]), (.tuple [(.str (PySem.Str.ofString "box"))]), (.tuple [(.str (PySem.Str.ofString "box")), (.int 0), (.int 0)]), (.tuple [(.str (PySem.Str.ofString "and")), (.bool true), (.int 0)]), (.tuple [(.str (PySem.Str.ofString "or")), (.int 0), (.bool false)]), (.tuple [(.str (PySem.Str.ofString "if")), .none, (.int 0)]), (.tuple [(.str (PySem.Str.ofString "and")), (.str (PySem.Str.ofString "0")), (.int 0)]), (.tuple [(.str (PySem.Str.ofString "box")), (.tuple [(.int 0)])]), (.tuple [(.str (PySem.Str.ofString "and")), (.list [(.int 0)]), (.int 0)])]
theorem wd3_0 {K : PySem.W.Frag} {σ : L2.St} {n : Int} (h : σ[2]? = some (some (.int n))) : DE (tTup (tCons (tC (.str (PySem.Str.ofString "and"))) (tCons (tC (.int 0)) tNil))) σ (.tuple [(.str (PySem.Str.ofString "and")), (.int 0)]) := (de_tup (da_cons de_str (da_cons de_int da_nil)) (by simp))
theorem wd3_1 {K : PySem.W.Frag} {σ : L2.St} {n : Int} (h : σ[2]? = some (some (.int n))) : DE (tTup (tCons (tC (.str (PySem.Str.ofString "or"))) (tCons (tC (.int 0)) (tCons (tC (.int 0)) (tCons (tC (.int 0)) tNil))))) σ (.tuple [(.str (PySem.Str.ofString "or")), (.int 0), (.int 0), (.int 0)]) := (de_tup (da_cons de_str (da_cons de_int (da_cons de_int (da_cons de_int da_nil)))) (by simp))
theorem wd3_2 {K : PySem.W.Frag} {σ : L2.St} {n : Int} (h : σ[2]? = some (some (.int n))) : DE (tTup (tCons (tC (.str (PySem.Str.ofString "if"))) tNil)) σ (.tuple [(.str (PySem.Str.ofString "if"))]) := (de_tup (da_cons de_str da_nil) (by simp))
theorem wd3_3 {K : PySem.W.Frag} {σ : L2.St} {n : Int} (h : σ[2]? = some (some (.int n))) : DE (tTup (tCons (tC (.str (PySem.Str.ofString "box"))) tNil)) σ (.tuple [(.str (PySem.Str.ofString "box"))]) := (de_tup (da_cons de_str da_nil) (by simp))
theorem wd3_4 {K : PySem.W.Frag} {σ : L2.St} {n : Int} (h : σ[2]? = some (some (.int n))) : DE (tTup (tCons (tC (.str (PySem.Str.ofString "box"))) (tCons (tC (.int 0)) (tCons (tC (.int 0)) tNil)))) σ (.tuple [(.str (PySem.Str.ofString "box")), (.int 0), (.int 0)]) := (de_tup (da_cons de_str (da_cons de_int (da_cons de_int da_nil))) (by simp))
theorem wd3_5 {K : PySem.W.Frag} {σ : L2.St} {n : Int} (h : σ[2]? = some (some (.int n))) : DE (tTup (tCons (tC (.str (PySem.Str.ofString "and"))) (tCons (tC (.bl true)) (tCons (tC (.int 0)) tNil)))) σ (.tuple [(.str (PySem.Str.ofString "and")), (.bool true), (.int 0)]) := (de_tup (da_cons de_str (da_cons de_bl (da_cons de_int da_nil))) (by simp))
theorem wd3_6 {K : PySem.W.Frag} {σ : L2.St} {n : Int} (h : σ[2]? = some (some (.int n))) : DE (tTup (tCons (tC (.str (PySem.Str.ofString "or"))) (tCons (tC (.int 0)) (tCons (tC (.bl false)) tNil)))) σ (.tuple [(.str (PySem.Str.ofString "or")), (.int 0), (.bool false)]) := (de_tup (da_cons de_str (da_cons de_int (da_cons de_bl da_nil))) (by simp))
theorem wd3_7 {K : PySem.W.Frag} {σ : L2.St} {n : Int} (h : σ[2]? = some (some (.int n))) : DE (tTup (tCons (tC (.str (PySem.Str.ofString "if"))) (tCons (tC .non) (tCons (tC (.int 0)) tNil)))) σ (.tuple [(.str (PySem.Str.ofString "if")), .none, (.int 0)]) := (de_tup (da_cons de_str (da_cons de_non (da_cons de_int da_nil))) (by simp))
theorem wd3_8 {K : PySem.W.Frag} {σ : L2.St} {n : Int} (h : σ[2]? = some (some (.int n))) : DE (tTup (tCons (tC (.str (PySem.Str.ofString "and"))) (tCons (tC (.str (PySem.Str.ofString "0"))) (tCons (tC (.int 0)) tNil)))) σ (.tuple [(.str (PySem.Str.ofString "and")), (.str (PySem.Str.ofString "0")), (.int 0)]) := (de_tup (da_cons de_str (da_cons de_str (da_cons de_int da_nil))) (by simp))
theorem wd3_9 {K : PySem.W.Frag} {σ : L2.St} {n : Int} (h : σ[2]? = some (some (.int n))) : DE (tTup (tCons (tC (.str (PySem.Str.ofString "box"))) (tCons (tTup (tCons (tC (.int 0)) tNil)) tNil))) σ (.tuple [(.str (PySem.Str.ofString "box")), (.tuple [(.int 0)])]) := (de_tup (da_cons de_str (da_cons (de_tup (da_cons de_int da_nil) (by simp)) da_nil)) (by simp))
theorem wd3_10 {K : PySem.W.Frag} {σ : L2.St} {n : Int} (h : σ[2]? = some (some (.int n))) : DE (tTup (tCons (tC (.str (PySem.Str.ofString "and"))) (tCons (tLst (tCons (tC (.int 0)) tNil)) (tCons (tC (.int 0)) tNil)))) σ (.tuple [(.str (PySem.Str.ofString "and")), (.list [(.int 0)]), (.int 0)]) := (de_tup (da_cons de_str (da_cons (de_lst (da_cons de_int da_nil) (by simp)) (da_cons de_int da_nil))) (by simp))
theorem wd3 {K : PySem.W.Frag} {σ : L2.St} {n : Int} (h : σ[2]? = some (some (.int n))) : DE (tLst (tCons (tTup (tCons (tC (.str (PySem.Str.ofString "and"))) (tCons (tC (.int 0)) tNil))) (tCons (tTup (tCons (tC (.str (PySem.Str.ofString "or"))) (tCons (tC (.int 0)) (tCons (tC (.int 0)) (tCons (tC (.int 0)) tNil))))) (tCons (tTup (tCons (tC (.str (PySem.Str.ofString "if"))) tNil)) (tCons (tTup (tCons (tC (.str (PySem.Str.ofString "box"))) tNil)) (tCons (tTup (tCons (tC (.str (PySem.Str.ofString "box"))) (tCons (tC (.int 0)) (tCons (tC (.int 0)) tNil)))) (tCons (tTup (tCons (tC (.str (PySem.Str.ofString "and"))) (tCons (tC (.bl true)) (tCons (tC (.int 0)) tNil)))) (tCons (tTup (tCons (tC (.str (PySem.Str.ofString "or"))) (tCons (tC (.int 0)) (tCons (tC (.bl false)) tNil)))) (tCons (tTup (tCons (tC (.str (PySem.Str.ofString "if"))) (tCons (tC .non) (tCons (tC (.int 0)) tNil)))) (tCons (tTup (tCons (tC (.str (PySem.Str.ofString "and"))) (tCons (tC (.str (PySem.Str.ofString "0"))) (tCons (tC (.int 0)) tNil)))) (tCons (tTup (tCons (tC (.str (PySem.Str.ofString "box"))) (tCons (tTup (tCons (tC (.int 0)) tNil)) tNil))) (tCons (tTup (tCons (tC (.str (PySem.Str.ofString "and"))) (tCons (tLst (tCons (tC (.int 0)) tNil)) (tCons (tC (.int 0)) tNil)))) tNil)))))))))))) σ (.list (wdD3 n)) := de_lst (da_cons (wd3_0 (K := K) h) (da_cons (wd3_1 (K := K) h) (da_cons (wd3_2 (K := K) h) (da_cons (wd3_3 (K := K) h) (da_cons (wd3_4 (K := K) h) (da_cons (wd3_5 (K := K) h) (da_cons (wd3_6 (K := K) h) (da_cons (wd3_7 (K := K) h) (da_cons (wd3_8 (K := K) h) (da_cons (wd3_9 (K := K) h) (da_cons (wd3_10 (K := K) h) da_nil))))))))))) (by simp [wdD3])
theorem wd3_small (n : Int) : ∀ d ∈ wdD3 n, sz d ≤ 10 ∧ dep d ≤ 3 := by simp [wdD3, sz_tup, sz_lst, szL_cons, szL_nil, dep_tup, dep_lst, depL_cons, depL_nil, sz1_int, sz1_str, sz1_bool, sz1_none, sz1_dict, dep1_int, dep1_str, dep1_bool, dep1_none, dep1_dict, List.replicate]
theorem wd3_len (n : Int) : (wdD3 n).length = 11 := rfl
def wdD4 (n : Int) : List PyData := [(.tuple [(.str (PySem.Str.ofString "not")), (.int 0)]), (.tuple [(.str (PySem.Str.ofString "iff")), (.int 0), (.int 0)]), (.tuple [(.str (PySem.Str.ofString "And")), (.int 0), (.int 0)]), (.tuple [(.str (PySem.Str.ofString "")), (.int 0), (.int 0)]), (.tuple [(.str (PySem.Str.ofString "letters")), (.int 0)]), (.tuple [(.int 0), (.int 0), (.int 0)]), (.tuple [(.bool true)]), (.tuple [.none]), (.tuple []), (.list []), (.list [(.str (PySem.Str.ofString "no"))]), (.str (PySem.Str.ofString "no")), .none, (.int 0), (.bool true), (.dict []), (.tuple (List.replicate (2 : Int).toNat [(.str (PySem.Str.ofString "no"))]).flatten), (.tuple [(.str (PySem.Str.ofString "letter")), (.int (10 ^ (30 : Int).toNat))]), (.list [(.tuple [(.str (PySem.Str.ofString "no"))])])]
theorem wd4_0 {K : PySem.W.Frag} {σ : L2.St} {n : Int} (h : σ[2]? = some (some (.int n))) : DE (tTup (tCons (tC (.str (PySem.Str.ofString "not"))) (tCons (tC (.int 0)) tNil))) σ (.tuple [(.str (PySem.Str.ofString "not")), (.int 0)]) := (de_tup (da_cons de_str (da_cons de_int da_nil)) (by simp))
theorem wd4_1 {K : PySem.W.Frag} {σ : L2.St} {n : Int} (h : σ[2]? = some (some (.int n))) : DE (tTup (tCons (tC (.str (PySem.Str.ofString "iff"))) (tCons (tC (.int 0)) (tCons (tC (.int 0)) tNil)))) σ (.tuple [(.str (PySem.Str.ofString "iff")), (.int 0), (.int 0)]) := (de_tup (da_cons de_str (da_cons de_int (da_cons de_int da_nil))) (by simp))
theorem wd4_2 {K : PySem.W.Frag} {σ : L2.St} {n : Int} (h : σ[2]? = some (some (.int n))) : DE (tTup (tCons (tC (.str (PySem.Str.ofString "And"))) (tCons (tC (.int 0)) (tCons (tC (.int 0)) tNil)))) σ (.tuple [(.str (PySem.Str.ofString "And")), (.int 0), (.int 0)]) := (de_tup (da_cons de_str (da_cons de_int (da_cons de_int da_nil))) (by simp))
theorem wd4_3 {K : PySem.W.Frag} {σ : L2.St} {n : Int} (h : σ[2]? = some (some (.int n))) : DE (tTup (tCons (tC (.str (PySem.Str.ofString ""))) (tCons (tC (.int 0)) (tCons (tC (.int 0)) tNil)))) σ (.tuple [(.str (PySem.Str.ofString "")), (.int 0), (.int 0)]) := (de_tup (da_cons de_str (da_cons de_int (da_cons de_int da_nil))) (by simp))
theorem wd4_4 {K : PySem.W.Frag} {σ : L2.St} {n : Int} (h : σ[2]? = some (some (.int n))) : DE (tTup (tCons (tC (.str (PySem.Str.ofString "letters"))) (tCons (tC (.int 0)) tNil))) σ (.tuple [(.str (PySem.Str.ofString "letters")), (.int 0)]) := (de_tup (da_cons de_str (da_cons de_int da_nil)) (by simp))
theorem wd4_5 {K : PySem.W.Frag} {σ : L2.St} {n : Int} (h : σ[2]? = some (some (.int n))) : DE (tTup (tCons (tC (.int 0)) (tCons (tC (.int 0)) (tCons (tC (.int 0)) tNil)))) σ (.tuple [(.int 0), (.int 0), (.int 0)]) := (de_tup (da_cons de_int (da_cons de_int (da_cons de_int da_nil))) (by simp))
theorem wd4_6 {K : PySem.W.Frag} {σ : L2.St} {n : Int} (h : σ[2]? = some (some (.int n))) : DE (tTup (tCons (tC (.bl true)) tNil)) σ (.tuple [(.bool true)]) := (de_tup (da_cons de_bl da_nil) (by simp))
theorem wd4_7 {K : PySem.W.Frag} {σ : L2.St} {n : Int} (h : σ[2]? = some (some (.int n))) : DE (tTup (tCons (tC .non) tNil)) σ (.tuple [.none]) := (de_tup (da_cons de_non da_nil) (by simp))
theorem wd4_8 {K : PySem.W.Frag} {σ : L2.St} {n : Int} (h : σ[2]? = some (some (.int n))) : DE (tTup tNil) σ (.tuple []) := (de_tup da_nil (by simp))
theorem wd4_9 {K : PySem.W.Frag} {σ : L2.St} {n : Int} (h : σ[2]? = some (some (.int n))) : DE (tLst tNil) σ (.list []) := (de_lst da_nil (by simp))
theorem wd4_10 {K : PySem.W.Frag} {σ : L2.St} {n : Int} (h : σ[2]? = some (some (.int n))) : DE (tLst (tCons (tC (.str (PySem.Str.ofString "no"))) tNil)) σ (.list [(.str (PySem.Str.ofString "no"))]) := (de_lst (da_cons de_str da_nil) (by simp))
theorem wd4_11 {K : PySem.W.Frag} {σ : L2.St} {n : Int} (h : σ[2]? = some (some (.int n))) : DE (tC (.str (PySem.Str.ofString "no"))) σ (.str (PySem.Str.ofString "no")) := de_str
theorem wd4_12 {K : PySem.W.Frag} {σ : L2.St} {n : Int} (h : σ[2]? = some (some (.int n))) : DE (tC .non) σ .none := de_non
theorem wd4_13 {K : PySem.W.Frag} {σ : L2.St} {n : Int} (h : σ[2]? = some (some (.int n))) : DE (tC (.int 0)) σ (.int 0) := de_int
theorem wd4_14 {K : PySem.W.Frag} {σ : L2.St} {n : Int} (h : σ[2]? = some (some (.int n))) : DE (tC (.bl true)) σ (.bool true) := de_bl
theorem wd4_15 {K : PySem.W.Frag} {σ : L2.St} {n : Int} (h : σ[2]? = some (some (.int n))) : DE tDNewK σ (.dict []) := de_dic
theorem wd4_16 {K : PySem.W.Frag} {σ : L2.St} {n : Int} (h : σ[2]? = some (some (.int n))) : DE (tOp (rRepT K) (tTup (tCons (tC (.str (PySem.Str.ofString "no"))) tNil)) (tC (.int 2))) σ (.tuple (List.replicate (2 : Int).toNat [(.str (PySem.Str.ofString "no"))]).flatten) := (de_rep (da_cons de_str da_nil) (by simp) (by simp))
theorem wd4_17 {K : PySem.W.Frag} {σ : L2.St} {n : Int} (h : σ[2]? = some (some (.int n))) : DE (tTup (tCons (tC (.str (PySem.Str.ofString "letter"))) (tCons (tOp (rI CPow fun i j => .int (i ^ j.toNat)) (tC (.int 10)) (tC (.int 30))) tNil))) σ (.tuple [(.str (PySem.Str.ofString "letter")), (.int (10 ^ (30 : Int).toNat))]) := (de_tup (da_cons de_str (da_cons (de_pow ⟨by decide, by decide, by decide⟩) da_nil)) (by simp))
theorem wd4_18 {K : PySem.W.Frag} {σ : L2.St} {n : Int} (h : σ[2]? = some (some (.int n))) : DE (tLst (tCons (tTup (tCons (tC (.str (PySem.Str.ofString "no"))) tNil)) tNil)) σ (.list [(.tuple [(.str (PySem.Str.ofString "no"))])]) := (de_lst (da_cons (de_tup (da_cons de_str da_nil) (by simp)) da_nil) (by simp))
theorem wd4 {K : PySem.W.Frag} {σ : L2.St} {n : Int} (h : σ[2]? = some (some (.int n))) : DE (tLst (tCons (tTup (tCons (tC (.str (PySem.Str.ofString "not"))) (tCons (tC (.int 0)) tNil))) (tCons (tTup (tCons (tC (.str (PySem.Str.ofString "iff"))) (tCons (tC (.int 0)) (tCons (tC (.int 0)) tNil)))) (tCons (tTup (tCons (tC (.str (PySem.Str.ofString "And"))) (tCons (tC (.int 0)) (tCons (tC (.int 0)) tNil)))) (tCons (tTup (tCons (tC (.str (PySem.Str.ofString ""))) (tCons (tC (.int 0)) (tCons (tC (.int 0)) tNil)))) (tCons (tTup (tCons (tC (.str (PySem.Str.ofString "letters"))) (tCons (tC (.int 0)) tNil))) (tCons (tTup (tCons (tC (.int 0)) (tCons (tC (.int 0)) (tCons (tC (.int 0)) tNil)))) (tCons (tTup (tCons (tC (.bl true)) tNil)) (tCons (tTup (tCons (tC .non) tNil)) (tCons (tTup tNil) (tCons (tLst tNil) (tCons (tLst (tCons (tC (.str (PySem.Str.ofString "no"))) tNil)) (tCons (tC (.str (PySem.Str.ofString "no"))) (tCons (tC .non) (tCons (tC (.int 0)) (tCons (tC (.bl true)) (tCons tDNewK (tCons (tOp (rRepT K) (tTup (tCons (tC (.str (PySem.Str.ofString "no"))) tNil)) (tC (.int 2))) (tCons (tTup (tCons (tC (.str (PySem.Str.ofString "letter"))) (tCons (tOp (rI CPow fun i j => .int (i ^ j.toNat)) (tC (.int 10)) (tC (.int 30))) tNil))) (tCons (tLst (tCons (tTup (tCons (tC (.str (PySem.Str.ofString "no"))) tNil)) tNil)) tNil)))))))))))))))))))) σ (.list (wdD4 n)) := de_lst (da_cons (wd4_0 (K := K) h) (da_cons (wd4_1 (K := K) h) (da_cons (wd4_2 (K := K) h) (da_cons (wd4_3 (K := K) h) (da_cons (wd4_4 (K := K) h) (da_cons (wd4_5 (K := K) h) (da_cons (wd4_6 (K := K) h) (da_cons (wd4_7 (K := K) h) (da_cons (wd4_8 (K := K) h) (da_cons (wd4_9 (K := K) h) (da_cons (wd4_10 (K := K) h) (da_cons (wd4_11 (K := K) h) (da_cons (wd4_12 (K := K) h) (da_cons (wd4_13 (K := K) h) (da_cons (wd4_14 (K := K) h) (da_cons (wd4_15 (K := K) h) (da_cons (wd4_16 (K := K) h) (da_cons (wd4_17 (K := K) h) (da_cons (wd4_18 (K := K) h) da_nil))))))))))))))))))) (by simp [wdD4])
theorem wd4_small (n : Int) : ∀ d ∈ wdD4 n, sz d ≤ 10 ∧ dep d ≤ 3 := by simp [wdD4, sz_tup, sz_lst, szL_cons, szL_nil, dep_tup, dep_lst, depL_cons, depL_nil, sz1_int, sz1_str, sz1_bool, sz1_none, sz1_dict, dep1_int, dep1_str, dep1_bool, dep1_none, dep1_dict, List.replicate]
theorem wd4_len (n : Int) : (wdD4 n).length = 19 := rfl
end K01

set_option Elab.async false
set_option linter.all false
set_option maxRecDepth 100000
set_option maxHeartbeats 400000
namespace K01
open PySem PySem.Spec PyProof.Rows L2 LL
open C8 (pss_cut)
theorem asg_de {te : TE} {g : TG} {u : TS} {D : Ends} {σ : L2.St} {H : Hp} {M : List Addr} {d : PyData} (h : DE te σ d) (hal : ∀ b ∈ M, H b ≠ none) (k : ∀ v H', Is M H' d v → Adv [] H H' → g v σ H' (fun σ' H'' => u D σ' H'')) : tSeq (tAsg te g) u D σ H := h M H _ hal k
theorem asg_te {te : TE} {g : TG} {u : TS} {D : Ends} {σ : L2.St} {H : Hp} (h : te σ H fun v H' => g v σ H' (fun σ' H'' => u D σ' H'')) : tSeq (tAsg te g) u D σ H := h
theorem RowsR.adv {M : List Addr} {H H1 : Hp} {s : Addr} {Q : VK} (q : RowsR M H s Q) (a : Adv [s] H H1) (hs : H1 s ≠ none) : RowsR M H1 s Q := fun sh rs ds H' h1 h2 h3 h4 h5 h6 h7 =>
  q sh rs ds H' h1 (a.trans h2) (a.free (by simp; exact fun z => hs (by rw [← z]; exact h3)) h3) h4 h5 h6 h7
section
variable {P : Program} {w : World} {K : PySem.W.Frag} {mg : Str → Option Value} {base : Heap}
def spSheet : Sp := fun vs H Q _ => ∃ (M : List Addr) (s : Addr) (boxed : Bool), vs = [.ref s, .bl boxed] ∧ StrAt M H s ∧ s ∈ M ∧ (∀ b ∈ M, H b ≠ none) ∧ RowsR M H s Q
theorem ok_law_sheet (A : All K mg w) : FnOk P w K mg base CX0 17 A.law_sheet.f A.law_sheet.fd ["stream", "boxed"] spSheet := by
  refine A.law_sheet.F.ok sc_law_sheet (fun vs H Q E h => ?_) (fun cdv Ar outer s H vs Q E hr h => ?_)
  · obtain ⟨M, s, boxed, rfl, _⟩ := h
    rfl
  · obtain ⟨M, s, boxed, rfl, hs, ms, hal, q⟩ := h
    refine ⟨_, (pss_cons (ps_if (pt_cmpR op_eq (pe_call (ok_law_next A) (hr.mono (by omega)) rfl A.law_next.m A.law_next.F.kp A.law_next.b .nil pass0 (pa_cons (pv 0) (pa_cons pe_int pa_nil))) pe_int (nomark _))
    (pss_cons (ps_set (i := 2) sc_law_sheet.nd rfl (Or.inl rfl) (pe_call (ok_law_pick A) (hr.mono (by omega)) rfl A.law_pick.m A.law_pick.F.kp A.law_pick.b .nil pass0 (pa_cons (pv 0) (pa_cons (pe_tup (pa_cons pe_int (pa_cons pe_int (pa_cons pe_int (pa_cons pe_int (pa_cons pe_int (pa_cons pe_int (pa_cons pe_int (pa_cons (pe_call (ok_law_next A) (hr.mono (by omega)) rfl A.law_next.m A.law_next.F.kp A.law_next.b .nil pass0 (pa_cons (pv 0) (pa_cons pe_int pa_nil))) (pa_cons (pe_call (ok_law_next A) (hr.mono (by omega)) rfl A.law_next.m A.law_next.F.kp A.law_next.b .nil pass0 (pa_cons (pv 0) (pa_cons pe_int pa_nil))) (pa_cons (pe_call (ok_law_next A) (hr.mono (by omega)) rfl A.law_next.m A.law_next.F.kp A.law_next.b .nil pass0 (pa_cons (pv 0) (pa_cons pe_int pa_nil))) pa_nil))))))))))) pa_nil))))
  (pss_one (ps_ret (pe_call (ok_law_raw A) (hr.mono (by omega)) rfl A.law_raw.m A.law_raw.F.kp A.law_raw.b .nil pass0 (pa_cons (pv 0) (pa_cons (pv 2) (pa_cons (pv 1) pa_nil)))))))
    pss_nil)
  (pss_cons (ps_set (i := 3) sc_law_sheet.nd rfl (Or.inl rfl) (pe_lst (pa_cons (pe_lst pa_nil) (pa_cons pe_dnewT pa_nil))))
  (pss_cons (ps_for PassesOwn.never rfl (pi_range1 rfl A.T.range (pa_cons (pe_call (ok_law_from A) (hr.mono (by omega)) rfl A.law_from.m A.law_from.F.kp A.law_from.b .nil pass0 (pa_cons (pv 0) (pa_cons pe_int (pa_cons pe_int pa_nil)))) pa_nil)) (pg_name (i := 4) sc_law_sheet.nd rfl (Or.inl rfl))
    (pss_one (ps_expr (pe_call (ok_law_formula A 12) (hr.mono (by omega)) rfl A.law_formula.m A.law_formula.F.kp A.law_formula.b .nil pass0 (pa_cons (pv 0) (pa_cons (pv 3) (pa_cons pe_int (pa_cons (pe_call (ok_law_next A) (hr.mono (by omega)) rfl A.law_next.m A.law_next.F.kp A.law_next.b .nil pass0 (pa_cons (pv 0) (pa_cons pe_int pa_nil))) (pa_cons (pv 1) pa_nil)))))))))
  (pss_one (ps_ret (pe_ix ix_list (pv 3) pe_int (fun _ _ => rfl))))))), ?_⟩
    refine ⟨_, rfl, s, 2, M, rfl, hs, by decide, by decide, fun d H1 d0 d1 hs1 a1 => ?_⟩
    have al : ∀ {H'}, Adv [s] H H' → StrAt M H' s → ∀ b ∈ M, H' b ≠ none := fun a h => alloc_adv hal a (by simpa using h.here)
    refine ⟨rfl, _, rfl, iteB (fun e => ?_) (fun e => ?_)⟩
    · refine ⟨_, rfl, _, rfl, s, 12, M, rfl, hs1, by decide, by decide, fun e1 H2 e10 e11 hs2 a2 => ?_⟩
      refine ⟨_, rfl, s, 12, M, rfl, hs2, by decide, by decide, fun e2 H3 e20 e21 hs3 a3 => ?_⟩
      refine ⟨_, rfl, s, 64, M, rfl, hs3, by decide, by decide, fun e3 H4 e30 e31 hs4 a4 => ?_⟩
      refine ⟨by show 10 ≤ sizeLine; decide, fun p np => ?_⟩
      have a5 : Adv [s] H (upd H4 p (.tup [.int 0, .int 1, .int 2, .int 59, .int 60, .int 61, .int 63, .int e1, .int e2, .int e3])) := ((((a1.trans a2).trans a3).trans a4)).newT np
      refine ⟨s, p, [.int 0, .int 1, .int 2, .int 59, .int 60, .int 61, .int 63, .int e1, .int e2, .int e3], M, rfl, hs4.same (Adv.new np), .inr upd_same, fun z => hs4.here (by rw [← z]; exact np), by simp, by simp, fun x H6 hx hs6 a6 => ?_⟩
      obtain ⟨m, rfl, m0, m1⟩ : ∃ m : Int, x = V.int m ∧ 0 ≤ m ∧ m ≤ 100 := by
        simp at hx
        rcases hx with h | h | h | h | h | h | h | h | h | h <;> exact ⟨_, h, by omega, by omega⟩
      exact ⟨_, rfl, _, rfl, _, rfl, M, s, m, boxed, rfl, hs6, ms, al (a5.trans a6) hs6, m0, m1, q.adv (a5.trans a6) hs6.here⟩
    · refine ⟨Nat.zero_le _, fun b0 n0 => ?_⟩
      intro b1 n1
      refine ⟨by show 2 ≤ sizeLine; decide, fun bk nk => ?_⟩
      have n10 : b1 ≠ b0 := fun z => by rw [z, upd_same] at n1; cases n1
      have n1' : H1 b1 = none := by rw [upd_ne n10] at n1; exact n1
      have nk1 : bk ≠ b1 := fun z => by rw [z, upd_same] at nk; cases nk
      have nk2 : bk ≠ b0 := fun z => by rw [upd_ne nk1, z, upd_same] at nk; cases nk
      have ns0 : s ≠ b0 := fun z => hs1.here (by rw [z]; exact n0)
      have ns1 : s ≠ b1 := fun z => hs1.here (by rw [z]; exact n1')
      have nk0 : H1 bk = none := by rw [upd_ne nk1, upd_ne nk2] at nk; exact nk
      have aa : Adv [] H1 (upd (upd (upd H1 b0 (.lst [])) b1 (.dT [])) bk (.lst [.ref b0, .ref b1])) := ((Adv.new n0).trans (Adv.new n1)).trans (Adv.new nk)
      have g0 : (upd (upd (upd H1 b0 (.lst [])) b1 (.dT [])) bk (.lst [.ref b0, .ref b1])) b0 = some (.lst []) := by rw [upd_ne nk2.symm, upd_ne n10.symm, upd_same]
      have g1 : (upd (upd (upd H1 b0 (.lst [])) b1 (.dT [])) bk (.lst [.ref b0, .ref b1])) b1 = some (.dT []) := by rw [upd_ne nk1.symm, upd_same]
      have B0 : Bk (b0 :: b1 :: M) (upd (upd (upd H1 b0 (.lst [])) b1 (.dT [])) bk (.lst [.ref b0, .ref b1])) s bk b0 b1 0 :=
        ⟨((hs1.fresh n1').fresh n0).same aa, upd_same, by simp [ms], by simp, by simp, fun z => by
          rcases List.mem_cons.mp z with e | z
          · exact nk2 e
          · rcases List.mem_cons.mp z with e | z
            · exact nk1 e
            · exact al a1 hs1 bk z nk0, ns0, ns1, n10.symm, fun b hb => by
          rcases List.mem_cons.mp hb with e | hb
          · rw [e, g0]; simp
          · rcases List.mem_cons.mp hb with e | hb
            · rw [e, g1]; simp
            · exact aa.alloc (al a1 hs1) b hb, ⟨[], [], [], g0, rfl, .nil, by simp, g1, Nat.le_refl _, by simp⟩⟩
      refine ⟨_, rfl, s, 1, 4, b0 :: b1 :: M, rfl, B0.str, by decide, by decide, fun t H3 t0 t1 hs3 a3 => ?_⟩
      have B3 := B0.next a3 hs3
      have a13 : Adv [s, b0, b1] H1 H3 := (Adv.nil aa).trans a3.one
      refine ⟨t, rfl, by omega, by omega, ?_⟩
      refine for_range (lo := 0) (n := t.toNat) (fun i σ' H' => ∃ (n : Nat) (x2 x4 : Option V), σ' = [some (.ref s), some (.bl boxed), x2, some (.ref bk), x4] ∧ n ≤ 25 * i ∧ Bk (b0 :: b1 :: M) H' s bk b0 b1 n ∧ Adv [s, b0, b1] H1 H')
        ⟨0, none, none, rfl, Nat.le_refl _, B3, a13⟩ ?_ ?_
      · rintro i σ' H' hi ⟨n, x2, x4, rfl, hn, B, a'⟩
        refine ⟨_, rfl, _, rfl, _, rfl, s, 12, b0 :: b1 :: M, rfl, B.str, by decide, by decide, fun m H4 m0 m1 hs4 a4 => ?_⟩
        refine ⟨_, rfl, b0 :: b1 :: M, s, bk, b0, b1, n, 8, m, boxed, rfl, B.next a4 hs4, by decide, by decide, m0, by omega, by decide, by omega, fun r n' H5 r1 r2 r3 B5 a5 => ?_⟩
        exact ⟨n', _, _, rfl, by omega, B5, (a'.trans a4.one).trans a5⟩
      · rintro σ' H' ⟨n, x2, x4, rfl, hn, B, a'⟩
        obtain ⟨_, hbk, _, _, _, _, _, _, _, _, rs, ds, kvs, r1, r2, r3, r4, r5, r6, r7⟩ := id B
        refine ⟨_, rfl, bk, _, 0, _, rfl, rfl, SqL.of hbk, atI_nat (j := 0) rfl, ?_⟩
        have aF : Adv [s] H1 H' := fun b o hb e => a' b o (by simp at hb ⊢; exact ⟨hb, ne_of_none e n0, ne_of_none e n1'⟩) e
        have n0H : H b0 = none := a1.free (by simpa using ns0.symm) n0
        have hdl : ds.length = n := by rw [← r2]; exact r3.len.symm
        exact q b0 rs ds H' (B.str.less (by simp +contextual)) (a1.trans aF) n0H r1 (r3.less (by intro b hb; simp at hb ⊢; rcases hb with h | h <;> simp [h])) (by omega) r4
/-! ### _law_strange -/
def spStrange : Sp := fun vs H Q _ => ∃ (M : List Addr) (s sh : Addr) (n : Int) (rs : List V) (ds : List PyData), vs = [.ref s, .ref sh, .int n] ∧ StrAt M H s ∧ s ∈ M ∧ (∀ b ∈ M, H b ≠ none) ∧ sh ≠ s ∧ H sh = some (.lst rs) ∧ IsDs M H ds rs ∧ ds.length ≤ 1000 ∧ (∀ d ∈ ds, sz d ≤ 10 ∧ dep d ≤ 3) ∧
  ∀ v d H', Is M H' d v → sz d ≤ 10 → dep d ≤ 3 → StrAt M H' s → Adv [s] H H' → Q v H'
theorem ok_law_strange (A : All K mg w) : FnOk P w K mg base CX0 3 A.law_strange.f A.law_strange.fd ["stream", "sheet", "at"] spStrange := by
  refine A.law_strange.F.ok sc_law_strange (fun vs H Q E h => ?_) (fun cdv Ar outer s H vs Q E hr h => ?_)
  · obtain ⟨M, s, sh, n, rs, ds, rfl, _⟩ := h
    rfl
  · obtain ⟨M, s, sh, n, rs, ds, rfl, hs, ms, hal, nsh, hsh, hds, hl, hsm, q⟩ := h
    refine ⟨_, (pss_cons (ps_set (i := 3) sc_law_strange.nd rfl (Or.inl rfl) (pe_lst (pa_cons (pe_tup (pa_cons pe_str (pa_cons pe_int pa_nil))) (pa_cons (pe_tup (pa_cons pe_str (pa_cons (pe_un un_neg pe_int) pa_nil))) (pa_cons (pe_tup (pa_cons pe_str (pa_cons pe_int pa_nil))) (pa_cons (pe_tup (pa_cons pe_str (pa_cons pe_int pa_nil))) (pa_cons (pe_tup (pa_cons pe_str (pa_cons pe_bl pa_nil))) (pa_cons (pe_tup (pa_cons pe_str (pa_cons pe_str pa_nil))) (pa_cons (pe_tup (pa_cons pe_str pa_nil)) (pa_cons (pe_tup (pa_cons pe_str (pa_cons pe_int (pa_cons pe_int pa_nil)))) (pa_cons (pe_tup (pa_cons pe_str pa_nil)) (pa_cons (pe_tup (pa_cons pe_str (pa_cons pe_int pa_nil))) (pa_cons (pe_tup (pa_cons pe_str (pa_cons pe_non pa_nil))) pa_nil)))))))))))))
  (pss_cons (ps_set (i := 3) sc_law_strange.nd rfl (Or.inl rfl) (pe_op op_cat (pv 3) (pe_lst (pa_cons (pe_tup (pa_cons pe_str (pa_cons (pv 2) (pa_cons pe_int pa_nil)))) (pa_cons (pe_tup (pa_cons pe_str (pa_cons pe_int (pa_cons (pv 2) pa_nil)))) (pa_cons (pe_tup (pa_cons pe_str (pa_cons (pe_op op_add (pv 2) pe_int) (pa_cons (pv 2) pa_nil)))) (pa_cons (pe_tup (pa_cons pe_str (pa_cons (pe_un un_neg pe_int) (pa_cons pe_int pa_nil)))) (pa_cons (pe_tup (pa_cons pe_str (pa_cons pe_int (pa_cons (pe_un un_neg pe_int) pa_nil)))) (pa_cons (pe_tup (pa_cons pe_str (pa_cons pe_int (pa_cons (pe_op op_sub (pv 2) pe_int) pa_nil)))) (pa_cons (pe_tup (pa_cons pe_str (pa_cons (pe_op op_sub (pv 2) pe_int) (pa_cons (pe_op op_sub (pv 2) pe_int) pa_nil)))) (pa_cons (pe_tup (pa_cons pe_str (pa_cons (pv 2) pa_nil))) (pa_cons (pe_tup (pa_cons pe_str (pa_cons (pe_op op_sub (pv 2) pe_int) pa_nil))) (pa_cons (pe_tup (pa_cons pe_str (pa_cons (pe_un un_neg pe_int) pa_nil))) pa_nil)))))))))))))
  (pss_cons (ps_set (i := 4) sc_law_strange.nd rfl (Or.inl rfl) (pe_lst (pa_cons (pe_tup (pa_cons pe_str (pa_cons pe_int pa_nil))) (pa_cons (pe_tup (pa_cons pe_str (pa_cons pe_int (pa_cons pe_int (pa_cons pe_int pa_nil))))) (pa_cons (pe_tup (pa_cons pe_str pa_nil)) (pa_cons (pe_tup (pa_cons pe_str pa_nil)) (pa_cons (pe_tup (pa_cons pe_str (pa_cons pe_int (pa_cons pe_int pa_nil)))) (pa_cons (pe_tup (pa_cons pe_str (pa_cons pe_bl (pa_cons pe_int pa_nil)))) (pa_cons (pe_tup (pa_cons pe_str (pa_cons pe_int (pa_cons pe_bl pa_nil)))) (pa_cons (pe_tup (pa_cons pe_str (pa_cons pe_non (pa_cons pe_int pa_nil)))) (pa_cons (pe_tup (pa_cons pe_str (pa_cons pe_str (pa_cons pe_int pa_nil)))) (pa_cons (pe_tup (pa_cons pe_str (pa_cons (pe_tup (pa_cons pe_int pa_nil)) pa_nil))) (pa_cons (pe_tup (pa_cons pe_str (pa_cons (pe_lst (pa_cons pe_int pa_nil)) (pa_cons pe_int pa_nil)))) pa_nil)))))))))))))
  (pss_cons (ps_set (i := 4) sc_law_strange.nd rfl (Or.inl rfl) (pe_op op_cat (pv 4) (pe_lst (pa_cons (pe_tup (pa_cons pe_str (pa_cons pe_int pa_nil))) (pa_cons (pe_tup (pa_cons pe_str (pa_cons pe_int (pa_cons pe_int pa_nil)))) (pa_cons (pe_tup (pa_cons pe_str (pa_cons pe_int (pa_cons pe_int pa_nil)))) (pa_cons (pe_tup (pa_cons pe_str (pa_cons pe_int (pa_cons pe_int pa_nil)))) (pa_cons (pe_tup (pa_cons pe_str (pa_cons pe_int pa_nil))) (pa_cons (pe_tup (pa_cons pe_int (pa_cons pe_int (pa_cons pe_int pa_nil)))) (pa_cons (pe_tup (pa_cons pe_bl pa_nil)) (pa_cons (pe_tup (pa_cons pe_non pa_nil)) (pa_cons (pe_tup pa_nil) (pa_cons (pe_lst pa_nil) (pa_cons (pe_lst (pa_cons pe_str pa_nil)) (pa_cons pe_str (pa_cons pe_non (pa_cons pe_int (pa_cons pe_bl (pa_cons pe_dnewK (pa_cons (pe_op op_repT (pe_tup (pa_cons pe_str pa_nil)) pe_int) (pa_cons (pe_tup (pa_cons pe_str (pa_cons (pe_op op_pow pe_int pe_int) pa_nil))) (pa_cons (pe_lst (pa_cons (pe_tup (pa_cons pe_str pa_nil)) pa_nil)) pa_nil))))))))))))))))))))))
  (pss_cons (ps_if (PW.pt (pw_and (pt_cmpR op_gt (pe_callB call_len_seq (by rfl) A.T.len PySem.boot_len (pa_cons (pv 1) pa_nil)) pe_int (nomark _)) (pw_and1 (pt_cmpR op_eq (pe_call (ok_law_next A) (hr.mono (by omega)) rfl A.law_next.m A.law_next.F.kp A.law_next.b .nil pass0 (pa_cons (pv 0) (pa_cons pe_int pa_nil))) pe_int (nomark _)))))
    (pss_one (ps_ret (pe_ix ix_list (pv 1) (pe_call (ok_law_next A) (hr.mono (by omega)) rfl A.law_next.m A.law_next.F.kp A.law_next.b .nil pass0 (pa_cons (pv 0) (pa_cons (pe_callB call_len_seq (by rfl) A.T.len PySem.boot_len (pa_cons (pv 1) pa_nil)) pa_nil))) (fun _ _ => rfl))))
    pss_nil)
  (pss_one (ps_ret (pe_ifExp (pt_cmpR op_gt (pe_call (ok_law_next A) (hr.mono (by omega)) rfl A.law_next.m A.law_next.F.kp A.law_next.b .nil pass0 (pa_cons (pv 0) (pa_cons pe_int pa_nil))) pe_int (nomark _)) (pe_call (ok_law_pick A) (hr.mono (by omega)) rfl A.law_pick.m A.law_pick.F.kp A.law_pick.b .nil pass0 (pa_cons (pv 0) (pa_cons (pv 3) pa_nil))) (pe_call (ok_law_pick A) (hr.mono (by omega)) rfl A.law_pick.m A.law_pick.F.kp A.law_pick.b .nil pass0 (pa_cons (pv 0) (pa_cons (pv 4) pa_nil))))))))))), ?_⟩
    have cat : ∀ {σ : L2.St} {te : TE} {es : List PyData} {j : Nat} {l : Addr} {xs : List V} {ds : List PyData} {H1 : Hp} {Q : VK}, DE te σ (.list es) → σ[j]? = some (some (.ref l)) → H1 l = some (.lst xs) → IsDs M H1 ds xs → ds.length ≤ 100 → es.length ≤ 100 → (∀ b ∈ M, H1 b ≠ none) →
        (∀ p H2 ws, Adv [] H1 H2 → H2 p = some (.lst ws) → IsDs M H2 (ds ++ es) ws → Q (.ref p) H2) → tOp rCat (tVar j) te σ H1 Q := by
      intro σ te es j l xs ds H1 Q hte hj hl hx hdl hel hal1 k
      refine ⟨_, hj, hte M H1 _ hal1 fun v H2 hv a2 => ?_⟩
      obtain ⟨b, ys, rfl, nb, hb, hy⟩ := hv.lstE
      refine ⟨l, b, xs, ys, rfl, rfl, a2.same _ _ hl, hb, by rw [hx.len, hy.len, sizeLine_eq]; omega, fun p np => ?_⟩
      have a3 : Adv [] H2 (upd H2 p (.lst (xs ++ ys))) := Adv.new np
      exact k p _ _ (a2.trans a3) upd_same (((hx.adv (Adv.nil a2)).app hy).adv (Adv.nil a3))
    -- near
    refine asg_de (M := M) (wd1 (K := K) (n := n) rfl) hal fun v1 H1 hv1 a1 => ?_
    obtain ⟨p1, xs1, rfl, np1, hp1, hx1⟩ := hv1.lstE
    refine asg_te (cat (wd2 (K := K) (n := n) rfl) rfl hp1 hx1 (by rw [wd1_len]; decide) (by rw [wd2_len]; decide) (a1.alloc hal) fun p2 H2 xs2 a2 hp2 hx2 => ?_)
    have a02 := a1.trans a2
    -- far
    refine asg_de (M := M) (wd3 (K := K) (n := n) rfl) (a02.alloc hal) fun v3 H3 hv3 a3 => ?_
    obtain ⟨p3, xs3, rfl, np3, hp3, hx3⟩ := hv3.lstE
    have a03 := a02.trans a3
    refine asg_te (cat (wd4 (K := K) (n := n) rfl) rfl hp3 hx3 (by rw [wd3_len]; decide) (by rw [wd4_len]; decide) (a03.alloc hal) fun p4 H4 xs4 a4 hp4 hx4 => ?_)
    have a04 := a03.trans a4
    have hs4 := hs.same a04
    have hsh4 := a04.same _ _ hsh
    have hds4 := hds.adv (Adv.nil (N := M) a04)
    have hp24 := (a3.trans a4).same _ _ hp2
    have hx24 := hx2.adv (Adv.nil (N := M) (a3.trans a4))
    have ns2 : p2 ≠ s := fun z => by
      obtain ⟨l, ns, c, k, g1, _⟩ := hs4
      rw [← z, hp24] at g1
      have e := HO.lst.inj (Option.some.inj g1)
      have := hx2.len
      rw [e, List.length_append, wd1_len, wd2_len] at this
      simp at this
    have ns4 : p4 ≠ s := fun z => by
      obtain ⟨l, ns, c, k, g1, _⟩ := hs4
      rw [← z, hp4] at g1
      have e := HO.lst.inj (Option.some.inj g1)
      have := hx4.len
      rw [e, List.length_append, wd3_len, wd4_len] at this
      simp at this
    -- if len(sheet) > 1 and next(3) == 0
    have tail : ∀ H5, StrAt M H5 s → Adv [s] H4 H5 → tRet (tIf (tTest (tOp (rI0 fun i j => .bl (decide (j < i))) (tCall spNext [] E0 (tCons (tVar 0) (tCons (tC (.int 3)) tNil))) (tC (.int 0)))) (tCall spPick [] E0 (tCons (tVar 0) (tCons (tVar 3) tNil))) (tCall spPick [] E0 (tCons (tVar 0) (tCons (tVar 4) tNil)))) { nx := fun _ H' => Q .non H', rt := Q } [some (.ref s), some (.ref sh), some (.int n), some (.ref p2), some (.ref p4)] H5 := by
      intro H5 hs5 a5
      refine ⟨_, rfl, s, 3, M, rfl, hs5, by decide, by decide, fun d H6 d0 d1 hs6 a6 => ?_⟩
      have a46 := a5.trans a6
      have get : ∀ (p : Addr) (xs : List V) (es : List PyData), H4 p = some (.lst xs) → IsDs M H4 es xs → p ≠ s → es ≠ [] → es.length ≤ 100 → (∀ d ∈ es, sz d ≤ 10 ∧ dep d ≤ 3) → spPick [.ref s, .ref p] H6 Q E0 := by
        intro p xs es hp hx nps hne hle hes
        have hxl := hx.len
        refine ⟨s, p, xs, M, rfl, hs6, .inl (a46 _ _ (by simpa using nps) hp), nps, fun z => hne (by rw [z] at hxl; exact List.length_eq_zero_iff.mp hxl.symm), by omega, fun x H7 hx7 hs7 a7 => ?_⟩
        obtain ⟨i, hi⟩ := List.getElem?_of_mem hx7
        obtain ⟨dx, hdx, isx⟩ := hx.getV hi
        have hm := List.mem_of_getElem? hdx
        exact q x dx H7 (isx.adv ((a46.trans a7).more (by simp [ms]))) (hes dx hm).1 (hes dx hm).2 hs7 (((Adv.nil a04).trans a46).trans a7)
      refine ⟨d, 0, rfl, rfl, _, rfl, iteB (fun _ => ?_) (fun _ => ?_)⟩
      · exact ⟨_, rfl, _, rfl, get p2 xs2 _ hp24 hx24 ns2 (fun z => by have := congrArg List.length z; rw [List.length_append, wd1_len, wd2_len] at this; cases this) (by rw [List.length_append, wd1_len, wd2_len]; decide) (fun d hd => (List.mem_append.mp hd).elim (wd1_small n d) (wd2_small n d))⟩
      · exact ⟨_, rfl, _, rfl, get p4 xs4 _ hp4 hx4 ns4 (fun z => by have := congrArg List.length z; rw [List.length_append, wd3_len, wd4_len] at this; cases this) (by rw [List.length_append, wd3_len, wd4_len]; decide) (fun d hd => (List.mem_append.mp hd).elim (wd3_small n d) (wd4_small n d))⟩
    refine ⟨_, rfl, sh, rs, rfl, .inl (SqL.of hsh4), _, 1, rfl, rfl, _, rfl, iteB (fun e => ?_) (fun e => iteN rfl (tail H4 hs4 (Adv.refl _ _)))⟩
    have hlen : 1 < rs.length := by have := of_decide_eq_true e; omega
    refine ⟨_, rfl, s, 3, M, rfl, hs4, by decide, by decide, fun d H5 d0 d1 hs5 a5 => ?_⟩
    refine ⟨rfl, _, rfl, iteB (fun e2 => ?_) (fun e2 => tail H5 hs5 a5)⟩
    have hsh5 := a5 _ _ (by simpa using nsh) hsh4
    have hrl := hds.len
    refine ⟨_, rfl, _, rfl, _, rfl, sh, rs, rfl, .inl (SqL.of hsh5), s, _, M, rfl, hs5, by omega, by omega, fun j H6 j0 j1 hs6 a6 => ?_⟩
    obtain ⟨e, rfl⟩ : ∃ e : Nat, j = (e : Int) := ⟨j.toNat, by omega⟩
    have he : e < rs.length := by omega
    obtain ⟨dx, hdx, isx⟩ := hds.getV (List.getElem?_eq_getElem he)
    have hm := List.mem_of_getElem? hdx
    refine ⟨sh, rs, (e : Int), _, rfl, rfl, SqL.of (a6 _ _ (by simpa using nsh) hsh5), atI_nat (List.getElem?_eq_getElem he), ?_⟩
    exact q _ dx H6 (isx.adv (((Adv.nil a04).trans (a5.trans a6)).more (by simp [ms]))) (hsm dx hm).1 (hsm dx hm).2 hs6 ((Adv.nil a04).trans (a5.trans a6))
end
end K01

set_option Elab.async false
set_option linter.all false
set_option maxRecDepth 100000
set_option maxHeartbeats 400000
namespace K01
open PySem PySem.Spec PyProof.Rows L2 LL
def clsBody : Stmt → List Stmt
  | .ClassDef (body := b) .. => b
  | _ => []
abbrev s_init : Stmt := (clsBody (top 3)).getD 0 (.Pass ⟨0, 0, 0, 0⟩)
theorem sc_init : FnScope ["self", "row"] ["self", "row"] (defScope s_init) := ⟨rfl, rfl, rfl, by decide +kernel, rfl, by decide +kernel, by decide +kernel⟩
/-- what the top has written of the classes of errors -/
structure Exs (K : PySem.W.Frag) (mg : Str → Option Value) where
  L : Addr
  S : Addr
  CE : Addr
  mL : mg "BadLogic" = some (.ref L)
  mS : mg "BadSheet" = some (.ref S)
  mC : mg "CourtError" = some (.ref CE)
  lQ : PySem.W.excIn K L [.type "ValueError", .type "Exception", .type "BaseException", .type "object"] "ValueError.__new__" = true
  lK : PySem.W.keepIn K (.ref L) = true
  lB : PySem.W.subIn K (.ref L) (.type "BaseException") = some true
  lT : PySem.W.typeIn K (.ref L) = some (.type "type")
  sO : OexC K S
  sf : Addr
  sfd : FuncData
  sI : PySem.W.findIn K (.ref S) "__init__" = some (some (.ref sf))
  sT : PySem.W.typeIn K (.ref sf) = some (.type "function")
  sF : Fun K "__init__" "BadSheet.__init__" s_init sf sfd
  sb : Binds K sfd ["self", "row"] []
  sX : XfC K S
  sN : PySem.W.findIn K (.ref S) "row" = some none
  eL : ExcC K L
  eS : ExcC K S
  hSS : PySem.W.exmOne K (.ref S) (.ref S) = some true
  hLS : PySem.W.exmOne K (.ref L) (.ref S) = some false
  hLC : PySem.W.exmOne K (.ref L) (.ref CE) = some true
  kLL : PySem.W.kitOne K (.ref L) (.ref L) = some true
  kLS : PySem.W.kitOne K (.ref L) (.ref S) = some false
  kSL : PySem.W.kitOne K (.ref S) (.ref L) = some false
  kSS : PySem.W.kitOne K (.ref S) (.ref S) = some true
  kLC : PySem.W.kitOne K (.ref L) (.ref CE) = some true
  kSC : PySem.W.kitOne K (.ref S) (.ref CE) = some true
  kLV : PySem.W.kitOne K (.ref L) (.type "ValueError") = some true
  kSV : PySem.W.kitOne K (.ref S) (.type "ValueError") = some true
  aBadClaim : Addr
  mBadClaim : mg "BadClaim" = some (.ref aBadClaim)
  lBadClaim : PySem.W.kitOne K (.ref L) (.ref aBadClaim) = some false
  sBadClaim : PySem.W.kitOne K (.ref S) (.ref aBadClaim) = some false
  aBadModel : Addr
  mBadModel : mg "BadModel" = some (.ref aBadModel)
  lBadModel : PySem.W.kitOne K (.ref L) (.ref aBadModel) = some false
  sBadModel : PySem.W.kitOne K (.ref S) (.ref aBadModel) = some false
  aBadPaper : Addr
  mBadPaper : mg "BadPaper" = some (.ref aBadPaper)
  lBadPaper : PySem.W.kitOne K (.ref L) (.ref aBadPaper) = some false
  sBadPaper : PySem.W.kitOne K (.ref S) (.ref aBadPaper) = some false
  aBadTerm : Addr
  mBadTerm : mg "BadTerm" = some (.ref aBadTerm)
  lBadTerm : PySem.W.kitOne K (.ref L) (.ref aBadTerm) = some false
  sBadTerm : PySem.W.kitOne K (.ref S) (.ref aBadTerm) = some false
  aBadEdit : Addr
  mBadEdit : mg "BadEdit" = some (.ref aBadEdit)
  lBadEdit : PySem.W.kitOne K (.ref L) (.ref aBadEdit) = some false
  sBadEdit : PySem.W.kitOne K (.ref S) (.ref aBadEdit) = some false
  aBadValue : Addr
  mBadValue : mg "BadValue" = some (.ref aBadValue)
  lBadValue : PySem.W.kitOne K (.ref L) (.ref aBadValue) = some false
  sBadValue : PySem.W.kitOne K (.ref S) (.ref aBadValue) = some false
  aBadText : Addr
  mBadText : mg "BadText" = some (.ref aBadText)
  lBadText : PySem.W.kitOne K (.ref L) (.ref aBadText) = some false
  sBadText : PySem.W.kitOne K (.ref S) (.ref aBadText) = some false
  aBadSize : Addr
  mBadSize : mg "BadSize" = some (.ref aBadSize)
  lBadSize : PySem.W.kitOne K (.ref L) (.ref aBadSize) = some false
  sBadSize : PySem.W.kitOne K (.ref S) (.ref aBadSize) = some false
  aTooMany : Addr
  mTooMany : mg "TooMany" = some (.ref aTooMany)
  lTooMany : PySem.W.kitOne K (.ref L) (.ref aTooMany) = some false
  sTooMany : PySem.W.kitOne K (.ref S) (.ref aTooMany) = some false
  aNotBoxed : Addr
  mNotBoxed : mg "NotBoxed" = some (.ref aNotBoxed)
  lNotBoxed : PySem.W.kitOne K (.ref L) (.ref aNotBoxed) = some false
  sNotBoxed : PySem.W.kitOne K (.ref S) (.ref aNotBoxed) = some false
  aNotProved : Addr
  mNotProved : mg "NotProved" = some (.ref aNotProved)
  lNotProved : PySem.W.kitOne K (.ref L) (.ref aNotProved) = some false
  sNotProved : PySem.W.kitOne K (.ref S) (.ref aNotProved) = some false
  aNotThere : Addr
  mNotThere : mg "NotThere" = some (.ref aNotThere)
  lNotThere : PySem.W.kitOne K (.ref L) (.ref aNotThere) = some false
  sNotThere : PySem.W.kitOne K (.ref S) (.ref aNotThere) = some false
  aNothingToUndo : Addr
  mNothingToUndo : mg "NothingToUndo" = some (.ref aNothingToUndo)
  lNothingToUndo : PySem.W.kitOne K (.ref L) (.ref aNothingToUndo) = some false
  sNothingToUndo : PySem.W.kitOne K (.ref S) (.ref aNothingToUndo) = some false
  aNothingToRedo : Addr
  mNothingToRedo : mg "NothingToRedo" = some (.ref aNothingToRedo)
  lNothingToRedo : PySem.W.kitOne K (.ref L) (.ref aNothingToRedo) = some false
  sNothingToRedo : PySem.W.kitOne K (.ref S) (.ref aNothingToRedo) = some false
section
variable {P : Program} {w : World} {K : PySem.W.Frag} {mg : Str → Option Value} {base : Heap}
/-! ### __init__ -/
def spInit (S : Addr) : Sp := fun vs H Q _ => ∃ (a : Addr) (y : V), vs = [.ref a, y] ∧ H a = some (exo a S none) ∧ ∀ dx, H dx = none → dx ≠ a → Q .non (upd (upd H dx (exd dx [("row", y)])) a (exo a S (some dx)))
theorem ok_init (Z : Exs K mg) : FnOk P w K mg base CX0 1 Z.sf Z.sfd ["self", "row"] (spInit Z.S) := by
  refine Z.sF.ok sc_init (fun vs H Q E h => ?_) (fun cdv Ar outer s H vs Q E hr h => ?_)
  · obtain ⟨a, y, rfl, _⟩ := h
    rfl
  · obtain ⟨a, y, rfl, ha, q⟩ := h
    refine ⟨_, pss_one (ps_ost (pv 0) (pv 1)), ?_⟩
    exact ⟨_, rfl, _, rfl, a, Z.S, rfl, Z.sO, Z.sN, .inl ⟨ha, fun dx n1 n2 => q dx n1 n2⟩⟩
/-! ### check_logic -/
def lgD : PyData → Bool
  | .str x => logicOk x
  | _ => false
def spCheckLogic (L : Addr) : Sp := fun vs H Q E => ∃ (v : V) (d : PyData), vs = [v] ∧ Is [] H d v ∧ (lgD d = true → Q .non H) ∧ (lgD d = false → E (.ref L) none H)
theorem ok_check_logic (A : All K mg w) (Z : Exs K mg) : FnOk P w K mg base (L2N.CX P w) 1 A.check_logic.f A.check_logic.fd ["logic"] (spCheckLogic Z.L) := by
  refine okXN A.check_logic.F sc_check_logic (fun vs H Q E h => ?_) (fun cdv Ar outer s H vs Q E hr h => ?_)
  · obtain ⟨v, d, rfl, _⟩ := h
    rfl
  · obtain ⟨v, d, rfl, hv, q1, q2⟩ := h
    obtain ⟨a, ma, ha⟩ := A.C.logics
    refine ⟨_, (pss_one (ps_if (PW.pt (pw_or (pt_not (pt_val (pe_callB call_isi (by rfl) A.T.isinstance (by decide +kernel) (pa_cons (pv 0) (pa_cons (pe_bltn (v := .ty "str") (by rfl) A.T.str (by decide +kernel) rfl) pa_nil))))) (pw_or1 (pt_cmpR op_notIn_seq (pv 0) (pe_glob (v := .ref a) rfl ma rfl) rfl))))
    (pss_one (L2N.ps_raise rfl (L2N.takes_of rfl rfl rfl rfl) (pmk_noargN PySem.F.excBase_ValueError Z.lQ Z.mL Z.lK (raises_own Z.lB Z.lT) rfl)))
    pss_nil)), ?_⟩
    refine ⟨_, rfl, _, _, _, _, _, rfl, .ty _, hv.ty, k_str d, _, rfl, ?_⟩
    by_cases hd : ∃ x, d = .str x
    · obtain ⟨x, rfl⟩ := hd
      rw [hv.strE]
      show tTest (tOp (rIn K true) (tVar 0) (tC (V.ref a))) _ _ _
      refine ⟨_, rfl, a, _, rfl, .inr (ha H), rfl, by decide, _, rfl, ?_⟩
      have e : inV (.str x) [.str "classical", .str "intuit", .str "k", .str "s4", .str "gl"] = logicOk x := (inV_strs x ["classical", "intuit", "k", "s4", "gl"]).trans (by simp [logicOk, Bool.or_assoc])
      rw [if_pos rfl, e]
      cases hl : logicOk x with
      | true => exact q1 hl
      | false => exact q2 hl
    · have e1 : kitD d "str" = false := by
        cases d with
        | str x => exact absurd ⟨x, rfl⟩ hd
        | bool b => rfl
        | none => rfl
        | int i => rfl
        | list l => rfl
        | tuple l => rfl
        | dict l => rfl
      have e2 : lgD d = false := by
        cases d with
        | str x => exact absurd ⟨x, rfl⟩ hd
        | bool b => rfl
        | none => rfl
        | int i => rfl
        | list l => rfl
        | tuple l => rfl
        | dict l => rfl
      rw [e1]
      exact q2 e2
/-! ### check_rows_of -/
def spCheckRows (S : Addr) : Sp := fun vs H Q E => ∃ (v : V) (d : PyData) (most : Int) (boxed : Bool), vs = [v, .int most, .bl boxed] ∧ Is [] H d v ∧ 0 ≤ most ∧ (∀ ds, d = .list ds → ds.length ≤ 1000000) ∧
  (wrongD most boxed d = none → ∀ H', Adv [] H H' → Q .non H') ∧ (∀ r, wrongD most boxed d = some r → ∀ dd H', Adv [] H H' → H dd = none → H' dd = some (.xd [("row", .int r)]) → E (.ref S) (some dd) H')
theorem ok_check_rows_of (A : All K mg w) (Z : Exs K mg) : FnOk P w K mg base (L2N.CX P w) 5 A.check_rows_of.f A.check_rows_of.fd ["sheet", "most", "boxed"] (spCheckRows Z.S) := by
  refine okXN A.check_rows_of.F sc_check_rows_of (fun vs H Q E h => ?_) (fun cdv Ar outer s H vs Q E hr h => ?_)
  · obtain ⟨v, d, most, boxed, rfl, _⟩ := h
    rfl
  · obtain ⟨v, d, most, boxed, rfl, hv, h0, hl, q1, q2⟩ := h
    refine ⟨_, (pss_cons (ps_set (i := 3) sc_check_rows_of.nd rfl (Or.inl rfl) (pe_call (ok_wrong_row A) (hr.mono (by omega)) rfl A.wrong_row.m A.wrong_row.F.kp A.wrong_row.b .nil pass0 (pa_cons (pv 0) (pa_cons (pv 1) (pa_cons (pv 2) pa_nil)))))
  (pss_one (ps_if (pt_cmpR op_notN (pv 3) pe_non (nomark _))
    (pss_one (L2N.ps_raise rfl (L2N.takes_of rfl rfl rfl rfl) (pmk_initN Z.sO Z.sI Z.sT (ok_init Z) (hr.mono (by omega)) Z.sb .nil pass0 rfl Z.mS (pa_cons (pv 3) pa_nil))))
    pss_nil))), ?_⟩
    refine ⟨_, rfl, _, rfl, _, rfl, v, d, most, boxed, rfl, hv, h0, hl, fun H1 a1 => ?_⟩
    cases e : wrongD most boxed d with
    | none => exact ⟨_, rfl, rfl, _, rfl, iteN (by decide) (q1 e H1 a1)⟩
    | some r =>
      refine ⟨_, rfl, rfl, _, rfl, iteY (by simp [resV]) ?_⟩
      refine ⟨_, rfl, Nat.le_of_ble_eq_true rfl, fun a na => ⟨a, .int r, rfl, upd_same, fun dx n1 n2 => ⟨rfl, dx, [("row", .int r)], upd_same, ?_, ?_, ?_⟩⟩⟩
      · rw [upd_ne n2, upd_same]
      · rw [upd_ne n2] at n1
        exact n1
      · have n1' : H1 dx = none := by rw [upd_ne n2] at n1; exact n1
        refine q2 r e dx _ (a1.trans fun b o hb eb => ?_) (a1.free (by simp) n1') upd_same
        have hba : b ≠ a := ne_of_none eb na
        have hbd : b ≠ dx := ne_of_none eb n1'
        rw [upd_ne hbd, del_ne hba, upd_ne hba, upd_ne hbd, upd_ne hba]
        exact eb
/-! ### check_sheet -/
def spCheckSheet (L S : Addr) : Sp := fun vs H Q E => ∃ (v1 v2 : V) (d1 d2 : PyData), vs = [v1, v2] ∧ Is [] H d1 v1 ∧ Is [] H d2 v2 ∧ (∀ ds, d2 = .list ds → ds.length ≤ 1000000) ∧ (lgD d1 = false → E (.ref L) none H) ∧
  ∀ x, d1 = .str x → logicOk x = true → (wrongD 60 (logicB x) d2 = none → ∀ H', Adv [] H H' → Q .non H') ∧ (∀ r, wrongD 60 (logicB x) d2 = some r → ∀ dd H', Adv [] H H' → H dd = none → H' dd = some (.xd [("row", .int r)]) → E (.ref S) (some dd) H')
theorem ok_check_sheet (A : All K mg w) (Z : Exs K mg) : FnOk P w K mg base (L2N.CX P w) 6 A.check_sheet.f A.check_sheet.fd ["logic", "sheet"] (spCheckSheet Z.L Z.S) := by
  refine okXN A.check_sheet.F sc_check_sheet (fun vs H Q E h => ?_) (fun cdv Ar outer s H vs Q E hr h => ?_)
  · obtain ⟨v1, v2, d1, d2, rfl, _⟩ := h
    rfl
  · obtain ⟨v1, v2, d1, d2, rfl, h1, h2, hl, qn, qy⟩ := h
    obtain ⟨tM, mM⟩ := A.C.most
    refine ⟨_, (pss_cons (ps_expr (pe_callS (ok_check_logic A Z) (hr.mono (by omega)) rfl A.check_logic.m A.check_logic.F.kp A.check_logic.b (L2N.passAt (L2N.takes_of rfl rfl rfl rfl)) (pa_cons (pv 0) pa_nil)))
  (pss_one (ps_expr (pe_callS (ok_check_rows_of A Z) (hr.mono (by omega)) rfl A.check_rows_of.m A.check_rows_of.F.kp A.check_rows_of.b (L2N.passAt (L2N.takes_of rfl rfl rfl rfl)) (pa_cons (pv 1) (pa_cons (pe_glob (v := .int 60) rfl mM ⟨_, rfl⟩) (pa_cons (pe_call (ok_is_boxed A) (hr.mono (by omega)) rfl A.is_boxed.m A.is_boxed.F.kp A.is_boxed.b .nil pass0 (pa_cons (pv 0) pa_nil)) pa_nil))))))), ?_⟩
    refine ⟨_, rfl, v1, d1, rfl, h1, fun e => ?_, qn⟩
    obtain ⟨x, rfl, hx⟩ : ∃ x, d1 = .str x ∧ logicOk x = true := by
      cases d1 with
      | str x => exact ⟨x, rfl, e⟩
      | bool b => cases e
      | none => cases e
      | int i => cases e
      | list l => cases e
      | tuple l => cases e
      | dict l => cases e
    obtain ⟨q1, q2⟩ := qy x rfl hx
    have ev := h1.strE
    subst ev
    refine ⟨_, rfl, _, rfl, x, rfl, fun H1 a1 => ?_⟩
    exact ⟨v2, d2, 60, logicB x, rfl, h2.adv a1, by decide, hl, fun e H' a => q1 e H' (a1.trans a), fun r e dd H' a n h => q2 r e dd H' (a1.trans a) (a1.free (by simp) n) h⟩
end
end K01

set_option Elab.async false
set_option linter.all false
set_option maxRecDepth 100000
set_option maxHeartbeats 400000
namespace K01
open PySem PySem.Spec PyProof.Rows L2 LL
/-- what kind of error the class at D is -/
structure NF {K : PySem.W.Frag} {mg : Str → Option Value} (Z : Exs K mg) (D : Addr) (b : Bool) : Prop where
  eD : ExcC K D
  kL : PySem.W.kitOne K (.ref D) (.ref Z.L) = some b
  kS : PySem.W.kitOne K (.ref D) (.ref Z.S) = some !b
  kC : PySem.W.kitOne K (.ref D) (.ref Z.CE) = some true
  kV : PySem.W.kitOne K (.ref D) (.type "ValueError") = some true
  kBadClaim : PySem.W.kitOne K (.ref D) (.ref Z.aBadClaim) = some false
  kBadModel : PySem.W.kitOne K (.ref D) (.ref Z.aBadModel) = some false
  kBadPaper : PySem.W.kitOne K (.ref D) (.ref Z.aBadPaper) = some false
  kBadTerm : PySem.W.kitOne K (.ref D) (.ref Z.aBadTerm) = some false
  kBadEdit : PySem.W.kitOne K (.ref D) (.ref Z.aBadEdit) = some false
  kBadValue : PySem.W.kitOne K (.ref D) (.ref Z.aBadValue) = some false
  kBadText : PySem.W.kitOne K (.ref D) (.ref Z.aBadText) = some false
  kBadSize : PySem.W.kitOne K (.ref D) (.ref Z.aBadSize) = some false
  kTooMany : PySem.W.kitOne K (.ref D) (.ref Z.aTooMany) = some false
  kNotBoxed : PySem.W.kitOne K (.ref D) (.ref Z.aNotBoxed) = some false
  kNotProved : PySem.W.kitOne K (.ref D) (.ref Z.aNotProved) = some false
  kNotThere : PySem.W.kitOne K (.ref D) (.ref Z.aNotThere) = some false
  kNothingToUndo : PySem.W.kitOne K (.ref D) (.ref Z.aNothingToUndo) = some false
  kNothingToRedo : PySem.W.kitOne K (.ref D) (.ref Z.aNothingToRedo) = some false
theorem nf_L {K : PySem.W.Frag} {mg : Str → Option Value} (Z : Exs K mg) : NF Z Z.L true := ⟨Z.eL, Z.kLL, Z.kLS, Z.kLC, Z.kLV, Z.lBadClaim, Z.lBadModel, Z.lBadPaper, Z.lBadTerm, Z.lBadEdit, Z.lBadValue, Z.lBadText, Z.lBadSize, Z.lTooMany, Z.lNotBoxed, Z.lNotProved, Z.lNotThere, Z.lNothingToUndo, Z.lNothingToRedo⟩
theorem nf_S {K : PySem.W.Frag} {mg : Str → Option Value} (Z : Exs K mg) : NF Z Z.S false := ⟨Z.eS, Z.kSL, Z.kSS, Z.kSC, Z.kSV, Z.sBadClaim, Z.sBadModel, Z.sBadPaper, Z.sBadTerm, Z.sBadEdit, Z.sBadValue, Z.sBadText, Z.sBadSize, Z.sTooMany, Z.sNotBoxed, Z.sNotProved, Z.sNotThere, Z.sNothingToUndo, Z.sNothingToRedo⟩
def allNames : List Str := ["BadLogic", "BadSheet", "BadClaim", "BadModel", "BadPaper", "BadTerm", "BadEdit", "BadValue", "BadText", "BadSize", "TooMany", "NotBoxed", "NotProved", "NotThere", "NothingToUndo", "NothingToRedo"]
section
variable {P : Program} {w : World} {K : PySem.W.Frag} {mg : Str → Option Value} {base : Heap}
def spNamed (D : Addr) (b : Bool) : Addr × Obj → Sp := fun p vs H Q _ => ∃ (d : Option Addr), vs = [.ref p.1] ∧ Zc (.ref D) d p.2 ∧ (∃ fs, p.2.data = .fields fs) ∧ (∀ dd, d = some dd → ∃ fs, H dd = some (.xd fs)) ∧
  ∀ H', Adv [] H H' → Q (.str (if b then "BadLogic" else "BadSheet")) H'
theorem ok_law_named (A : All K mg w) (Z : Exs K mg) {D : Addr} {b : Bool} (N : NF Z D b) : FnP P w K mg base 1 A.law_named.f A.law_named.fd ["error"] (spNamed D b) := by
  refine okP A.law_named.F sc_law_named (fun p vs H Q E h => ?_) (fun cdv Ar outer s H vs Q E p hr h => ?_)
  · obtain ⟨d, rfl, _⟩ := h
    rfl
  · obtain ⟨d, rfl, hz, hf, hd, q⟩ := h
    have hdA : ∀ {H'}, Adv [] H H' → ∀ dd, d = some dd → ∃ fs, H' dd = some (.xd fs) := fun a dd e => by
      obtain ⟨fs, h⟩ := hd dd e
      exact ⟨fs, a _ _ (by simp) h⟩
    refine ⟨_, (pss_cons (ps_set (i := 1) sc_law_named.nd rfl (Or.inl rfl) (pe_m1 PySem.F.slot_str_split PySem.F.type_str_split mt_split pe_str pe_str))
  (pss_cons (ps_set (i := 2) sc_law_named.nd rfl (Or.inl rfl) (pe_lst (pa_cons (pe_callB (call_isP N.eD hz hf (List.mem_singleton.mpr rfl)) (by rfl) A.T.isinstance (by decide +kernel) (pa_cons (pv 0) (pa_cons (pe_glob (v := .ref Z.L) rfl Z.mL rfl) pa_nil))) (pa_cons (pe_callB (call_isP N.eD hz hf (List.mem_singleton.mpr rfl)) (by rfl) A.T.isinstance (by decide +kernel) (pa_cons (pv 0) (pa_cons (pe_glob (v := .ref Z.S) rfl Z.mS rfl) pa_nil))) (pa_cons (pe_callB (call_isP N.eD hz hf (List.mem_singleton.mpr rfl)) (by rfl) A.T.isinstance (by decide +kernel) (pa_cons (pv 0) (pa_cons (pe_glob (v := .ref Z.aBadClaim) rfl Z.mBadClaim rfl) pa_nil))) (pa_cons (pe_callB (call_isP N.eD hz hf (List.mem_singleton.mpr rfl)) (by rfl) A.T.isinstance (by decide +kernel) (pa_cons (pv 0) (pa_cons (pe_glob (v := .ref Z.aBadModel) rfl Z.mBadModel rfl) pa_nil))) pa_nil))))))
  (pss_cons (ps_set (i := 2) sc_law_named.nd rfl (Or.inl rfl) (pe_op op_cat (pv 2) (pe_lst (pa_cons (pe_callB (call_isP N.eD hz hf (List.mem_singleton.mpr rfl)) (by rfl) A.T.isinstance (by decide +kernel) (pa_cons (pv 0) (pa_cons (pe_glob (v := .ref Z.aBadPaper) rfl Z.mBadPaper rfl) pa_nil))) (pa_cons (pe_callB (call_isP N.eD hz hf (List.mem_singleton.mpr rfl)) (by rfl) A.T.isinstance (by decide +kernel) (pa_cons (pv 0) (pa_cons (pe_glob (v := .ref Z.aBadTerm) rfl Z.mBadTerm rfl) pa_nil))) (pa_cons (pe_callB (call_isP N.eD hz hf (List.mem_singleton.mpr rfl)) (by rfl) A.T.isinstance (by decide +kernel) (pa_cons (pv 0) (pa_cons (pe_glob (v := .ref Z.aBadEdit) rfl Z.mBadEdit rfl) pa_nil))) (pa_cons (pe_callB (call_isP N.eD hz hf (List.mem_singleton.mpr rfl)) (by rfl) A.T.isinstance (by decide +kernel) (pa_cons (pv 0) (pa_cons (pe_glob (v := .ref Z.aBadValue) rfl Z.mBadValue rfl) pa_nil))) pa_nil)))))))
  (pss_cons (ps_set (i := 2) sc_law_named.nd rfl (Or.inl rfl) (pe_op op_cat (pv 2) (pe_lst (pa_cons (pe_callB (call_isP N.eD hz hf (List.mem_singleton.mpr rfl)) (by rfl) A.T.isinstance (by decide +kernel) (pa_cons (pv 0) (pa_cons (pe_glob (v := .ref Z.aBadText) rfl Z.mBadText rfl) pa_nil))) (pa_cons (pe_callB (call_isP N.eD hz hf (List.mem_singleton.mpr rfl)) (by rfl) A.T.isinstance (by decide +kernel) (pa_cons (pv 0) (pa_cons (pe_glob (v := .ref Z.aBadSize) rfl Z.mBadSize rfl) pa_nil))) (pa_cons (pe_callB (call_isP N.eD hz hf (List.mem_singleton.mpr rfl)) (by rfl) A.T.isinstance (by decide +kernel) (pa_cons (pv 0) (pa_cons (pe_glob (v := .ref Z.aTooMany) rfl Z.mTooMany rfl) pa_nil))) (pa_cons (pe_callB (call_isP N.eD hz hf (List.mem_singleton.mpr rfl)) (by rfl) A.T.isinstance (by decide +kernel) (pa_cons (pv 0) (pa_cons (pe_glob (v := .ref Z.aNotBoxed) rfl Z.mNotBoxed rfl) pa_nil))) pa_nil)))))))
  (pss_cons (ps_set (i := 2) sc_law_named.nd rfl (Or.inl rfl) (pe_op op_cat (pv 2) (pe_lst (pa_cons (pe_callB (call_isP N.eD hz hf (List.mem_singleton.mpr rfl)) (by rfl) A.T.isinstance (by decide +kernel) (pa_cons (pv 0) (pa_cons (pe_glob (v := .ref Z.aNotProved) rfl Z.mNotProved rfl) pa_nil))) (pa_cons (pe_callB (call_isP N.eD hz hf (List.mem_singleton.mpr rfl)) (by rfl) A.T.isinstance (by decide +kernel) (pa_cons (pv 0) (pa_cons (pe_glob (v := .ref Z.aNotThere) rfl Z.mNotThere rfl) pa_nil))) (pa_cons (pe_callB (call_isP N.eD hz hf (List.mem_singleton.mpr rfl)) (by rfl) A.T.isinstance (by decide +kernel) (pa_cons (pv 0) (pa_cons (pe_glob (v := .ref Z.aNothingToUndo) rfl Z.mNothingToUndo rfl) pa_nil))) (pa_cons (pe_callB (call_isP N.eD hz hf (List.mem_singleton.mpr rfl)) (by rfl) A.T.isinstance (by decide +kernel) (pa_cons (pv 0) (pa_cons (pe_glob (v := .ref Z.aNothingToRedo) rfl Z.mNothingToRedo rfl) pa_nil))) pa_nil)))))))
  (pss_cons (ps_if (PW.pt (pw_or (pt_cmpR op_ne (pe_bm PySem.F.plainAttrs_list PySem.F.slot_list_count PySem.F.type_list_count mt_countF (pv 2) (pa_cons pe_bl pa_nil)) pe_int (nomark _)) (pw_or (pt_not (pt_val (pe_callB (call_isP N.eD hz hf (List.mem_singleton.mpr rfl)) (by rfl) A.T.isinstance (by decide +kernel) (pa_cons (pv 0) (pa_cons (pe_glob (v := .ref Z.CE) rfl Z.mC rfl) pa_nil))))) (pw_or1 (pt_not (pt_val (pe_callB (call_isP N.eD hz hf (List.mem_singleton.mpr rfl)) (by rfl) A.T.isinstance (by decide +kernel) (pa_cons (pv 0) (pa_cons (pe_bltn (v := .ty "ValueError") (by rfl) A.T.ValueError (by decide +kernel) rfl) pa_nil)))))))))
    (pss_one (ps_ret pe_str))
    pss_nil)
  (pss_one (ps_ret (pe_ix ix_list (pv 1) (pe_bm PySem.F.plainAttrs_list PySem.F.slot_list_index PySem.F.type_list_index mt_index (pv 2) (pa_cons pe_bl pa_nil)) (fun _ _ => rfl)))))))))), ?_⟩
    refine ⟨⟨_, rfl⟩, _, _, rfl, rfl, rfl, by show _ ≤ sizeLine; decide +kernel, ?_⟩
    intro p0 np0
    have a0 : Adv [] H (upd H p0 (.lst (allNames.map V.str))) := Adv.new np0
    have es : Txt.split "BadLogic BadSheet BadClaim BadModel BadPaper BadTerm BadEdit BadValue BadText BadSize TooMany NotBoxed NotProved NotThere NothingToUndo NothingToRedo" " " = allNames := by decide +kernel
    rw [es]
    refine ⟨_, rfl, _, _, _, rfl, fun u h => h, hdA a0, N.kL, _, rfl, _, _, _, rfl, fun u h => h, hdA a0, N.kS, _, rfl, _, _, _, rfl, fun u h => h, hdA a0, N.kBadClaim, _, rfl, _, _, _, rfl, fun u h => h, hdA a0, N.kBadModel, by show 4 ≤ sizeLine; decide, fun p1 np1 => ?_⟩
    have a1 : Adv [] H (upd (upd H p0 (.lst (allNames.map V.str))) p1 (.lst [.bl b, .bl !b, .bl false, .bl false])) := a0.newT np1
    have b1 : Adv [] (upd H p0 (.lst (allNames.map V.str))) (upd (upd H p0 (.lst (allNames.map V.str))) p1 (.lst [.bl b, .bl !b, .bl false, .bl false])) := Adv.new np1
    refine ⟨_, rfl, _, rfl, _, _, _, rfl, fun u h => h, hdA a1, N.kBadPaper, _, rfl, _, _, _, rfl, fun u h => h, hdA a1, N.kBadTerm, _, rfl, _, _, _, rfl, fun u h => h, hdA a1, N.kBadEdit, _, rfl, _, _, _, rfl, fun u h => h, hdA a1, N.kBadValue, by show 4 ≤ sizeLine; decide, ?_⟩
    intro p2 np2
    have a2 := a1.newT (o := .lst [.bl false, .bl false, .bl false, .bl false]) np2
    have b2 := b1.newT (o := .lst [.bl false, .bl false, .bl false, .bl false]) np2
    refine ⟨p1, p2, [.bl b, .bl !b, .bl false, .bl false], [.bl false, .bl false, .bl false, .bl false], rfl, rfl, ?_, upd_same, by show 8 ≤ sizeLine; decide, ?_⟩
    · rw [upd_ne (ne_of_none (o := .lst [.bl b, .bl !b, .bl false, .bl false]) upd_same np2)]; exact upd_same
    intro p3 np3
    have a3 := a2.newT (o := .lst [.bl b, .bl !b, .bl false, .bl false, .bl false, .bl false, .bl false, .bl false]) np3
    have b3 := b2.newT (o := .lst [.bl b, .bl !b, .bl false, .bl false, .bl false, .bl false, .bl false, .bl false]) np3
    refine ⟨_, rfl, _, rfl, _, _, _, rfl, fun u h => h, hdA a3, N.kBadText, _, rfl, _, _, _, rfl, fun u h => h, hdA a3, N.kBadSize, _, rfl, _, _, _, rfl, fun u h => h, hdA a3, N.kTooMany, _, rfl, _, _, _, rfl, fun u h => h, hdA a3, N.kNotBoxed, by show 4 ≤ sizeLine; decide, ?_⟩
    intro p4 np4
    have a4 := a3.newT (o := .lst [.bl false, .bl false, .bl false, .bl false]) np4
    have b4 := b3.newT (o := .lst [.bl false, .bl false, .bl false, .bl false]) np4
    refine ⟨p3, p4, [.bl b, .bl !b, .bl false, .bl false, .bl false, .bl false, .bl false, .bl false], [.bl false, .bl false, .bl false, .bl false], rfl, rfl, ?_, upd_same, by show 12 ≤ sizeLine; decide, ?_⟩
    · rw [upd_ne (ne_of_none (o := .lst [.bl b, .bl !b, .bl false, .bl false, .bl false, .bl false, .bl false, .bl false]) upd_same np4)]; exact upd_same
    intro p5 np5
    have a5 := a4.newT (o := .lst [.bl b, .bl !b, .bl false, .bl false, .bl false, .bl false, .bl false, .bl false, .bl false, .bl false, .bl false, .bl false]) np5
    have b5 := b4.newT (o := .lst [.bl b, .bl !b, .bl false, .bl false, .bl false, .bl false, .bl false, .bl false, .bl false, .bl false, .bl false, .bl false]) np5
    refine ⟨_, rfl, _, rfl, _, _, _, rfl, fun u h => h, hdA a5, N.kNotProved, _, rfl, _, _, _, rfl, fun u h => h, hdA a5, N.kNotThere, _, rfl, _, _, _, rfl, fun u h => h, hdA a5, N.kNothingToUndo, _, rfl, _, _, _, rfl, fun u h => h, hdA a5, N.kNothingToRedo, by show 4 ≤ sizeLine; decide, ?_⟩
    intro p6 np6
    have a6 := a5.newT (o := .lst [.bl false, .bl false, .bl false, .bl false]) np6
    have b6 := b5.newT (o := .lst [.bl false, .bl false, .bl false, .bl false]) np6
    refine ⟨p5, p6, [.bl b, .bl !b, .bl false, .bl false, .bl false, .bl false, .bl false, .bl false, .bl false, .bl false, .bl false, .bl false], [.bl false, .bl false, .bl false, .bl false], rfl, rfl, ?_, upd_same, by show 16 ≤ sizeLine; decide, ?_⟩
    · rw [upd_ne (ne_of_none (o := .lst [.bl b, .bl !b, .bl false, .bl false, .bl false, .bl false, .bl false, .bl false, .bl false, .bl false, .bl false, .bl false]) upd_same np6)]; exact upd_same
    intro p7 np7
    have a7 := a6.newT (o := .lst [.bl b, .bl !b, .bl false, .bl false, .bl false, .bl false, .bl false, .bl false, .bl false, .bl false, .bl false, .bl false, .bl false, .bl false, .bl false, .bl false]) np7
    have b7 := b6.newT (o := .lst [.bl b, .bl !b, .bl false, .bl false, .bl false, .bl false, .bl false, .bl false, .bl false, .bl false, .bl false, .bl false, .bl false, .bl false, .bl false, .bl false]) np7
    have h0 := b7 p0 _ (by simp) upd_same
    cases b with
    | true =>
      refine ⟨_, rfl, .inl ⟨rfl, _, SqL.of upd_same⟩, p7, [.bl true, .bl false, .bl false, .bl false, .bl false, .bl false, .bl false, .bl false, .bl false, .bl false, .bl false, .bl false, .bl false, .bl false, .bl false, .bl false], .bl true, rfl, rfl, SqL.of upd_same, rfl, rfl, rfl, _, rfl, iteN (by decide) ?_⟩
      refine ⟨_, rfl, _, _, _, rfl, fun u h => h, hdA a7, N.kC, _, rfl, iteN (by decide) ?_⟩
      refine ⟨_, rfl, _, _, _, rfl, fun u h => h, hdA a7, N.kV, _, rfl, iteN (by decide) ?_⟩
      refine ⟨_, rfl, _, rfl, .inl ⟨rfl, _, SqL.of upd_same⟩, p7, [.bl true, .bl false, .bl false, .bl false, .bl false, .bl false, .bl false, .bl false, .bl false, .bl false, .bl false, .bl false, .bl false, .bl false, .bl false, .bl false], .bl true, 0, .bl true, rfl, rfl, SqL.of upd_same, rfl, rfl, rfl, rfl, fun m z hm hz => absurd hm (Nat.not_lt_zero _), p0, _, _, _, rfl, rfl, SqL.of h0, atI_nat (j := 0) rfl, ?_⟩
      exact q _ a7
    | false =>
      refine ⟨_, rfl, .inl ⟨rfl, _, SqL.of upd_same⟩, p7, [.bl false, .bl true, .bl false, .bl false, .bl false, .bl false, .bl false, .bl false, .bl false, .bl false, .bl false, .bl false, .bl false, .bl false, .bl false, .bl false], .bl true, rfl, rfl, SqL.of upd_same, rfl, rfl, rfl, _, rfl, iteN (by decide) ?_⟩
      refine ⟨_, rfl, _, _, _, rfl, fun u h => h, hdA a7, N.kC, _, rfl, iteN (by decide) ?_⟩
      refine ⟨_, rfl, _, _, _, rfl, fun u h => h, hdA a7, N.kV, _, rfl, iteN (by decide) ?_⟩
      refine ⟨_, rfl, _, rfl, .inl ⟨rfl, _, SqL.of upd_same⟩, p7, [.bl false, .bl true, .bl false, .bl false, .bl false, .bl false, .bl false, .bl false, .bl false, .bl false, .bl false, .bl false, .bl false, .bl false, .bl false, .bl false], .bl true, 1, .bl true, rfl, rfl, SqL.of upd_same, rfl, rfl, rfl, rfl, fun m z hm hz => by obtain rfl : m = 0 := by { omega }; cases hz; rfl, p0, _, _, _, rfl, rfl, SqL.of h0, atI_nat (j := 1) rfl, ?_⟩
      exact q _ a7
end
end K01

set_option Elab.async false
set_option linter.all false
set_option maxRecDepth 100000
set_option maxHeartbeats 400000
namespace K01
open PySem PySem.Spec PyProof.Rows L2 LL
/-! ### _law_ask -/
def tHeld (D : Addr) (nm : Str) (a : Addr) (cls : Value) (d : Option Addr) (i : Nat) : TE := fun σ H Q => tVar i σ H fun x H1 => x = .ref a ∧ cls = .ref D ∧ (∀ dd, d = some dd → ∃ fs, H1 dd = some (.xd fs)) ∧ ∀ H', Adv [] H1 H' → Q (.str nm) H'
section
variable {P : Program} {w : World} {K : PySem.W.Frag} {mg : Str → Option Value} {base : Heap}
theorem pe_named {X : Cx} (A : All X.K X.mg X.w) (Z : Exs X.K X.mg) {D : Addr} {b : Bool} (N : NF Z D b) (hr : Room 1 X.A) (hg : Gl X "_law_named") {a : Addr} {oe : Obj} {cls : Value} {d : Option Addr} {pn : List (Addr × Obj)} (hz : Zc cls d oe) (hf : ∃ vs, oe.data = .fields vs)
    {y : Str} {i : Nat} {q pos ep : Pos} (he : PE (X.suite a ((a, oe) :: pn)) (.Name y ep) (tVar i)) :
    PE (X.suite a ((a, oe) :: pn)) (.Call (.Name "_law_named" q) [.Name y ep] [] pos) (tHeld D (if b then "BadLogic" else "BadSheet") a cls d i) := by
  refine ⟨fun pins s σ H Q I h => ?_⟩
  refine (pe_callP (X := X.suite a ((a, oe) :: pn)) (p := (a, oe)) (E := E0) (ok_law_named (P := X.prog) (base := X.base) A Z N) ⟨hr.dp, hr.un⟩ List.mem_cons_self hg A.law_named.m A.law_named.F.kp A.law_named.b (pa_cons he pa_nil)).run pins s σ H Q I ?_
  obtain ⟨x, hx, ex, ec, hd, q⟩ := h
  exact ⟨x, hx, d, by rw [ex], by rw [← ec]; exact hz, hf, hd, q⟩
def otherD : PyData := .list [.str "other", .str "BadLogic"]
def askD : PyData → PyData → PyData
  | .str x, d => if logicOk x = true then (match wrongD 60 (logicB x) d with | none => .list [.str "told", .none] | some r => .list [.str "sheet", .int r, .str "BadSheet"]) else otherD
  | _, _ => otherD
theorem askD_not {d1 d2 : PyData} (h : lgD d1 = false) : askD d1 d2 = otherD := by
  cases d1 with
  | str x =>
    have h' : logicOk x = false := h
    show (if logicOk x = true then _ else otherD) = otherD
    rw [h', if_neg Bool.false_ne_true]
  | bool b => rfl
  | none => rfl
  | int i => rfl
  | list l => rfl
  | tuple l => rfl
  | dict l => rfl
theorem takes_no {X : Cx} : L2N.Takes X (fun _ _ _ _ => False) := fun u s' ⟨_, _, _, _, _, _, _, _, _, _, _, _, _, _, _, _, w⟩ => w.elim
def spAsk : Sp := fun vs H Q _ => ∃ (v1 v2 : V) (d1 d2 : PyData), vs = [v1, v2] ∧ Is [] H d1 v1 ∧ Is [] H d2 v2 ∧ (∀ ds, d2 = .list ds → ds.length ≤ 1000000) ∧ ∀ v H', Is [] H' (askD d1 d2) v → Adv [] H H' → Q v H'
theorem ok_law_ask (A : All K mg w) (Z : Exs K mg) : FnOk P w K mg base CX0 8 A.law_ask.f A.law_ask.fd ["logic", "sheet"] spAsk := by
  refine A.law_ask.F.ok sc_law_ask (fun vs H Q E h => ?_) (fun cdv Ar outer s H vs Q E hr h => ?_)
  · obtain ⟨v1, v2, d1, d2, rfl, _⟩ := h
    rfl
  · obtain ⟨v1, v2, d1, d2, rfl, h1, h2, hl, q⟩ := h
    refine ⟨_, pss_cons (ps_tryAs (n := "e") (i := 3) (Wout := fun _ _ _ _ => False) rfl rfl sc_law_ask.nd rfl rfl takes_no
        (fun W pn xe tk po => pss_one (ps_set (i := 2) sc_law_ask.nd rfl (Or.inl rfl) (pe_callS (ok_check_sheet A Z) (hr.mono (by omega)) rfl A.check_sheet.m A.check_sheet.F.kp A.check_sheet.b (fun σ => L2N.passAt tk σ) (pa_cons (pv 0) (pa_cons (pv 1) pa_nil)))))
        (.cons (c := .ref Z.S) ⟨rfl, by decide, .inl Z.mS⟩ (fun a oe cls d pn hz hf => pss_one (ps_ret (pe_lst (pa_cons pe_str (pa_cons (pe_xf Z.sX Z.sN hz.zc hf (pv 3)) (pa_cons (pe_named A Z (nf_S Z) (hr.mono (by omega)) (by rfl) hz.zc hf (pv 3)) pa_nil))))))
          (.cons (c := .ref Z.CE) ⟨rfl, by decide, .inl Z.mC⟩ (fun a oe cls d pn hz hf => pss_one (ps_ret (pe_lst (pa_cons pe_str (pa_cons (pe_named A Z (nf_L Z) (hr.mono (by omega)) (by rfl) hz.zc hf (pv 3)) pa_nil))))) .nil)))
      (pss_one (ps_ret (pe_lst (pa_cons pe_str (pa_cons (pv 2) pa_nil))))), ?_⟩
    refine ⟨_, rfl, _, rfl, v1, v2, d1, d2, rfl, h1, h2, hl, fun hn => ?_, fun x ex hx => ⟨fun hw H1 a1 => ?_, fun r hw dd H1 a1 n1 hdd => ?_⟩⟩
    · refine ⟨false, Z.hLS, (fun z => nomatch z), fun _ => ⟨true, Z.hLC, fun _ a na => ?_, (fun z => nomatch z)⟩⟩
      refine ⟨_, rfl, rfl, rfl, (fun dd z => nomatch z), fun H1 a1 => ⟨by show 2 ≤ sizeLine; decide, fun p np => ?_⟩⟩
      refine q _ _ ?_ (a1.newT np)
      rw [askD_not hn]
      exact Is.lst upd_same (by simp) (.cons .str (.cons .str .nil))
    · refine ⟨_, rfl, by show 2 ≤ sizeLine; decide, fun p np => ?_⟩
      refine q _ _ ?_ (a1.newT np)
      subst ex
      show Is [] _ (if logicOk x = true then _ else otherD) _
      rw [if_pos hx, hw]
      exact Is.lst upd_same (by simp) (.cons .str (.cons .non .nil))
    · refine ⟨true, Z.hSS, fun _ a na => ?_, (fun z => nomatch z)⟩
      refine ⟨_, rfl, rfl, rfl, dd, _, .int r, rfl, hdd, rfl, ?_⟩
      refine ⟨_, rfl, rfl, rfl, fun dd' z => ⟨_, by cases z; exact hdd⟩, fun H2 a2 => ⟨by show 3 ≤ sizeLine; decide, fun p np => ?_⟩⟩
      refine q _ _ ?_ ((a1.trans a2).newT np)
      subst ex
      show Is [] _ (if logicOk x = true then _ else otherD) _
      rw [if_pos hx, hw]
      exact Is.lst upd_same (by simp) (.cons .str (.cons .int (.cons .str .nil)))
end
end K01

set_option Elab.async false
set_option linter.all false
set_option maxRecDepth 100000
set_option maxHeartbeats 400000
namespace K01
open PySem PySem.Spec PyProof.Rows L2 LL
/-! ### _law_is_answered -/
section
variable {P : Program} {w : World} {K : PySem.W.Frag} {mg : Str → Option Value} {base : Heap}
theorem askD_yes {x : Str} {d : PyData} (h : logicOk x = true) : askD (.str x) d = match wrongD 60 (logicB x) d with | none => .list [.str "told", .none] | some r => .list [.str "sheet", .int r, .str "BadSheet"] := by
  show (if logicOk x = true then _ else otherD) = _
  exact (if_pos h).trans (by cases wrongD 60 (logicB x) d <;> rfl)
def spAnswered : Sp := fun vs H Q _ => ∃ (x : Str) (v : V) (d : PyData), vs = [.str x, v] ∧ logicOk x = true ∧ Is [] H d v ∧ sz d ≤ 500000 ∧ dep d ≤ 8 ∧ ∀ H', Adv [] H H' → Q (.bl true) H'
theorem ok_law_is_answered (A : All K mg w) (Z : Exs K mg) : FnOk P w K mg base CX0 10 A.law_is_answered.f A.law_is_answered.fd ["logic", "sheet"] spAnswered := by
  refine A.law_is_answered.F.ok sc_law_is_answered (fun vs H Q E h => ?_) (fun cdv Ar outer s H vs Q E hr h => ?_)
  · obtain ⟨x, v, d, rfl, _⟩ := h
    rfl
  · obtain ⟨x, v, d, rfl, hx, hv, hsz, hdp, q⟩ := h
    have hl : ∀ ds, d = .list ds → ds.length ≤ 1000000 := fun ds e => by
      subst e
      have := szL_len ds
      rw [sz_lst] at hsz
      omega
    refine ⟨_, (pss_cons (ps_set (i := 2) sc_law_is_answered.nd rfl (Or.inl rfl) (pe_call (ok_law_wrong_row A) (hr.mono (by omega)) rfl A.law_wrong_row.m A.law_wrong_row.F.kp A.law_wrong_row.b .nil pass0 (pa_cons (pv 1) (pa_cons pe_int (pa_cons (pe_call (ok_law_is_boxed A) (hr.mono (by omega)) rfl A.law_is_boxed.m A.law_is_boxed.F.kp A.law_is_boxed.b .nil pass0 (pa_cons (pv 0) pa_nil)) pa_nil)))))
  (pss_cons (ps_set (i := 3) sc_law_is_answered.nd rfl (Or.inl rfl) (pe_call (ok_law_copy A 8) (hr.mono (by omega)) rfl A.law_copy.m A.law_copy.F.kp A.law_copy.b .nil pass0 (pa_cons (pv 1) pa_nil)))
  (pss_one (ps_ret (pe_and (pe_call (ok_law_same A) (hr.mono (by omega)) rfl A.law_same.m A.law_same.F.kp A.law_same.b .nil pass0 (pa_cons (pe_call (ok_law_ask A Z) (hr.mono (by omega)) rfl A.law_ask.m A.law_ask.F.kp A.law_ask.b .nil pass0 (pa_cons (pv 0) (pa_cons (pv 1) pa_nil))) (pa_cons (pe_ifExp (pt_cmpR op_isN (pv 2) pe_non (nomark _)) (pe_lst (pa_cons pe_str (pa_cons pe_non pa_nil))) (pe_lst (pa_cons pe_str (pa_cons (pv 2) (pa_cons pe_str pa_nil))))) pa_nil))) (pe_one (pe_call (ok_law_same A) (hr.mono (by omega)) rfl A.law_same.m A.law_same.F.kp A.law_same.b .nil pass0 (pa_cons (pv 1) (pa_cons (pv 3) pa_nil))))))))), ?_⟩
    refine ⟨_, rfl, _, rfl, x, rfl, fun H1 a1 => ?_⟩
    refine ⟨v, d, 60, logicB x, rfl, hv.adv a1, by decide, hl, fun H2 a2 => ?_⟩
    have a02 := a1.trans a2
    refine ⟨_, rfl, v, d, [], rfl, by simp, hv.adv a02, hdp, by omega, fun v3 H3 hv3 a3 => ?_⟩
    have a03 := a02.trans a3
    refine ⟨_, rfl, _, rfl, .str x, v, .str x, d, rfl, .str, hv.adv a03, hl, fun v4 H4 hv4 a4 => ?_⟩
    have a04 := a03.trans a4
    rw [askD_yes hx] at hv4
    cases e : wrongD 60 (logicB x) d with
    | none =>
      rw [e] at hv4
      refine ⟨_, rfl, rfl, _, rfl, iteY (by decide) ⟨by show 2 ≤ sizeLine; decide, fun p np => ?_⟩⟩
      have a05 := a04.newT (o := .lst [.str "told", .non]) np
      refine ⟨v4, .ref p, _, rfl, hv4.adv (Adv.new np), Is.lst upd_same (by simp) (.cons .str (.cons .non .nil)), by simp [sz_lst, szL_cons, szL_nil, sz1_str, sz1_none], fun H5 a5 => ⟨true, rfl, iteY rfl ?_⟩⟩
      have a06 := a05.trans a5
      exact ⟨_, rfl, _, rfl, v, v3, d, rfl, hv.adv a06, hv3.adv ((a4.newT np).trans a5), by omega, fun H6 a6 => q _ (a06.trans a6)⟩
    | some r =>
      rw [e] at hv4
      refine ⟨_, rfl, rfl, _, rfl, iteN (by simp [resV]) ⟨_, rfl, by show 3 ≤ sizeLine; decide, fun p np => ?_⟩⟩
      have a05 := a04.newT (o := .lst [.str "sheet", .int r, .str "BadSheet"]) np
      refine ⟨v4, .ref p, _, rfl, hv4.adv (Adv.new np), Is.lst upd_same (by simp) (.cons .str (.cons .int (.cons .str .nil))), by simp [sz_lst, szL_cons, szL_nil, sz1_str, sz1_int], fun H5 a5 => ⟨true, rfl, iteY rfl ?_⟩⟩
      have a06 := a05.trans a5
      exact ⟨_, rfl, _, rfl, v, v3, d, rfl, hv.adv a06, hv3.adv ((a4.newT np).trans a5), by omega, fun H6 a6 => q _ (a06.trans a6)⟩
end
end K01

set_option Elab.async false
set_option linter.all false
set_option maxRecDepth 100000
set_option maxHeartbeats 400000
namespace K01
open PySem PySem.Spec PyProof.Rows L2 LL
open C8 (pss_cut)
section
variable {P : Program} {w : World} {K : PySem.W.Frag} {mg : Str → Option Value} {base : Heap}
def wdS : List PyData := [(.str (PySem.Str.ofString "K")), (.str (PySem.Str.ofString "S4")), (.str (PySem.Str.ofString "")), (.str (PySem.Str.ofString "grz")), (.str (PySem.Str.ofString "k4")), (.str (PySem.Str.ofString "intuitionistic")), (.str (PySem.Str.ofString "classic")), (.str (PySem.Str.ofString "gl ")), .none, (.int 0), (.bool true), (.list [(.str (PySem.Str.ofString "k"))]), (.tuple [(.str (PySem.Str.ofString "gl"))]), (.dict [])]
theorem wdS_0 {σ : L2.St} : DE (tC (.str (PySem.Str.ofString "K"))) σ (.str (PySem.Str.ofString "K")) := de_str
theorem wdS_1 {σ : L2.St} : DE (tC (.str (PySem.Str.ofString "S4"))) σ (.str (PySem.Str.ofString "S4")) := de_str
theorem wdS_2 {σ : L2.St} : DE (tC (.str (PySem.Str.ofString ""))) σ (.str (PySem.Str.ofString "")) := de_str
theorem wdS_3 {σ : L2.St} : DE (tC (.str (PySem.Str.ofString "grz"))) σ (.str (PySem.Str.ofString "grz")) := de_str
theorem wdS_4 {σ : L2.St} : DE (tC (.str (PySem.Str.ofString "k4"))) σ (.str (PySem.Str.ofString "k4")) := de_str
theorem wdS_5 {σ : L2.St} : DE (tC (.str (PySem.Str.ofString "intuitionistic"))) σ (.str (PySem.Str.ofString "intuitionistic")) := de_str
theorem wdS_6 {σ : L2.St} : DE (tC (.str (PySem.Str.ofString "classic"))) σ (.str (PySem.Str.ofString "classic")) := de_str
theorem wdS_7 {σ : L2.St} : DE (tC (.str (PySem.Str.ofString "gl "))) σ (.str (PySem.Str.ofString "gl ")) := de_str
theorem wdS_8 {σ : L2.St} : DE (tC .non) σ .none := de_non
theorem wdS_9 {σ : L2.St} : DE (tC (.int 0)) σ (.int 0) := de_int
theorem wdS_10 {σ : L2.St} : DE (tC (.bl true)) σ (.bool true) := de_bl
theorem wdS_11 {σ : L2.St} : DE (tLst (tCons (tC (.str (PySem.Str.ofString "k"))) tNil)) σ (.list [(.str (PySem.Str.ofString "k"))]) := (de_lst (da_cons de_str da_nil) (by simp))
theorem wdS_12 {σ : L2.St} : DE (tTup (tCons (tC (.str (PySem.Str.ofString "gl"))) tNil)) σ (.tuple [(.str (PySem.Str.ofString "gl"))]) := (de_tup (da_cons de_str da_nil) (by simp))
theorem wdS_13 {σ : L2.St} : DE tDNewK σ (.dict []) := de_dic
theorem wdSt {σ : L2.St} : DE (tLst (tCons (tC (.str (PySem.Str.ofString "K"))) (tCons (tC (.str (PySem.Str.ofString "S4"))) (tCons (tC (.str (PySem.Str.ofString ""))) (tCons (tC (.str (PySem.Str.ofString "grz"))) (tCons (tC (.str (PySem.Str.ofString "k4"))) (tCons (tC (.str (PySem.Str.ofString "intuitionistic"))) (tCons (tC (.str (PySem.Str.ofString "classic"))) (tCons (tC (.str (PySem.Str.ofString "gl "))) (tCons (tC .non) (tCons (tC (.int 0)) (tCons (tC (.bl true)) (tCons (tLst (tCons (tC (.str (PySem.Str.ofString "k"))) tNil)) (tCons (tTup (tCons (tC (.str (PySem.Str.ofString "gl"))) tNil)) (tCons tDNewK tNil))))))))))))))) σ (.list wdS) := de_lst (da_cons wdS_0 (da_cons wdS_1 (da_cons wdS_2 (da_cons wdS_3 (da_cons wdS_4 (da_cons wdS_5 (da_cons wdS_6 (da_cons wdS_7 (da_cons wdS_8 (da_cons wdS_9 (da_cons wdS_10 (da_cons wdS_11 (da_cons wdS_12 (da_cons wdS_13 da_nil)))))))))))))) (by simp [wdS])
theorem wdS_no : ∀ d ∈ wdS, lgD d = false := by decide +kernel
theorem ixN_of {n j : Nat} (h : j < n) : ixN n (j : Int) = some j := by
  unfold ixN
  rw [if_pos (Int.natCast_nonneg j), if_pos (by omega), Int.toNat_natCast]
def toL : PyData → PyData
  | .tuple l => .list l
  | d => d
def wholeD (ds : List PyData) : List PyData := [.tuple ds, .none, .dict [], .str "no", .int 0, .bool true, .tuple [.str "no"], .list (ds.map toL), .list [.list ds], .list [.none]]
theorem toL_sz {d : PyData} (h : Small d) : sz (toL d) ≤ 4 ∧ dep (toL d) ≤ 1 := by
  obtain ⟨h1, h2, ks, rfl⟩ := h
  rw [sz_tup] at h1
  rw [dep_tup] at h2
  show sz (.list _) ≤ 4 ∧ dep (.list _) ≤ 1
  rw [sz_lst, dep_lst]
  exact ⟨h1, h2⟩
theorem whole_sz {ds : List PyData} (h : ∀ d ∈ ds, Small d) (hl : ds.length ≤ 200) : ∀ d ∈ wholeD ds, sz d ≤ 100000 := by
  have e1 := sm_sz h hl
  have e2 : szL (ds.map toL) ≤ 800 := by
    have := szL_le (k := 4) (ds := ds.map toL) (fun d hd => by
      obtain ⟨d0, h0, rfl⟩ := List.mem_map.mp hd
      exact (toL_sz (h d0 h0)).1)
    rw [List.length_map] at this
    omega
  intro d hd
  simp only [wholeD, List.mem_cons, List.not_mem_nil, or_false] at hd
  rcases hd with rfl | rfl | rfl | rfl | rfl | rfl | rfl | rfl | rfl | rfl
  all_goals simp only [sz_tup, sz_lst, szL_cons, szL_nil, sz1_int, sz1_str, sz1_bool, sz1_none, sz1_dict]
  all_goals omega
theorem whole_dep {ds : List PyData} (h : ∀ d ∈ ds, Small d) : ∀ d ∈ wholeD ds, dep d ≤ 8 := by
  have e1 := sm_dep h
  have e2 : depL (ds.map toL) ≤ 1 := depL_le fun d hd => by
    obtain ⟨d0, h0, rfl⟩ := List.mem_map.mp hd
    exact (toL_sz (h d0 h0)).2
  intro d hd
  simp only [wholeD, List.mem_cons, List.not_mem_nil, or_false] at hd
  rcases hd with rfl | rfl | rfl | rfl | rfl | rfl | rfl | rfl | rfl | rfl
  all_goals simp only [dep_tup, dep_lst, depL_cons, depL_nil, dep1_int, dep1_str, dep1_bool, dep1_none, dep1_dict]
  all_goals omega
def rListK (K : PySem.W.Frag) : List V → Hp → VK → Prop := fun xs H Q => ∃ p ys, xs = [.ref p] ∧ (SqL K H p ys ∨ SqT K H p ys) ∧ ∀ l, H l = none → Q (.ref l) (upd H l (.lst ys))
theorem call_listK {X : Cx} (K : PySem.W.Frag) (h : X.K = K) : CallR X (.type "list") (rListK K) := by
  subst h
  exact call_list_of
theorem asg_pick {te : TE} {g : TG} {u : TS} {D : Ends} {σ : L2.St} {H : Hp} {M : List Addr} {ds : List PyData} {s : Addr} (h1 : σ[1]? = some (some (.ref s))) (h : DE te σ (.list ds)) (hal : ∀ b ∈ M, H b ≠ none)
    (k : ∀ p xs H', H' p = some (.lst xs) → IsDs M H' ds xs → p ∉ M → Adv [] H H' → spPick [.ref s, .ref p] H' (fun v H'' => g v σ H'' (fun σ2 H2 => u D σ2 H2)) E0) : tSeq (tAsg (tCall spPick [] E0 (tCons (tVar 1) (tCons te tNil))) g) u D σ H :=
  ⟨_, h1, h M H _ hal fun v H' hv a => by
    obtain ⟨p, xs, rfl, np, hp, hx⟩ := hv.lstE
    exact k p xs H' hp hx np a⟩
def spLaw (K : PySem.W.Frag) : Sp := fun vs H Q _ => ∃ (a : Addr) (ns : List Int), vs = [.ref a] ∧ SqL K H a (ns.map V.int) ∧ ns.length ≤ 63 ∧ ∀ H', Q (.bl true) H'
theorem ok_law (A : All K mg w) (Z : Exs K mg) : FnOk P w K mg base CX0 18 A.law.f A.law.fd ["script"] (spLaw K) := by
  refine A.law.F.ok sc_law (fun vs H Q E h => ?_) (fun cdv Ar outer s H vs Q E hr h => ?_)
  · obtain ⟨a, ns, rfl, _⟩ := h
    rfl
  · obtain ⟨a, ns, rfl, hS, hl, q⟩ := h
    refine ⟨_, (pss_cons (ps_set (i := 1) sc_law.nd rfl (Or.inl rfl) (pe_call (ok_law_stream A) (hr.mono (by omega)) rfl A.law_stream.m A.law_stream.F.kp A.law_stream.b .nil pass0 (pa_cons (pv 0) pa_nil)))
  (pss_cons (ps_for PassesOwn.never rfl (pi_range1 rfl A.T.range (pa_cons pe_int pa_nil)) (pg_name (i := 2) sc_law.nd rfl (Or.inl rfl))
    (pss_cons (ps_set (i := 3) sc_law.nd rfl (Or.inl rfl) (pe_call (ok_law_pick A) (hr.mono (by omega)) rfl A.law_pick.m A.law_pick.F.kp A.law_pick.b .nil pass0 (pa_cons (pv 1) (pa_cons (pe_tup (pa_cons pe_str (pa_cons pe_str (pa_cons pe_str (pa_cons pe_str (pa_cons pe_str pa_nil)))))) pa_nil))))
  (pss_cut (ps_set (i := 4) sc_law.nd rfl (Or.inl rfl) (pe_call (ok_law_sheet A) (hr.mono (by omega)) rfl A.law_sheet.m A.law_sheet.F.kp A.law_sheet.b .nil pass0 (pa_cons (pv 1) (pa_cons (pe_or (pe_call (ok_law_is_boxed A) (hr.mono (by omega)) rfl A.law_is_boxed.m A.law_is_boxed.F.kp A.law_is_boxed.b .nil pass0 (pa_cons (pv 3) pa_nil)) (pe_one (pe_cmpR op_eq (pe_call (ok_law_next A) (hr.mono (by omega)) rfl A.law_next.m A.law_next.F.kp A.law_next.b .nil pass0 (pa_cons (pv 1) (pa_cons pe_int pa_nil))) pe_int (nomark _)))) pa_nil))))
  (pss_cons (ps_if (pt_not (pt_val (pe_call (ok_law_is_answered A Z) (hr.mono (by omega)) rfl A.law_is_answered.m A.law_is_answered.F.kp A.law_is_answered.b .nil pass0 (pa_cons (pv 3) (pa_cons (pe_callTy call_list_of (by rfl) A.T.list (by decide +kernel) (pa_cons (pv 4) pa_nil)) pa_nil)))))
    (pss_one (ps_ret pe_bl))
    pss_nil)
  (pss_cons (ps_for PassesOwn.never rfl (pi_range1 rfl A.T.range (pa_cons pe_int pa_nil)) (pg_name (i := 5) sc_law.nd rfl (Or.inl rfl))
    (pss_cons (ps_set (i := 6) sc_law.nd rfl (Or.inl rfl) (pe_callTy call_list_of (by rfl) A.T.list (by decide +kernel) (pa_cons (pv 4) pa_nil)))
  (pss_cut (ps_for PassesOwn.never rfl (pi_range1 rfl A.T.range (pa_cons (pe_ifExp (pt_cmpR op_gt (pe_callB call_len_seq (by rfl) A.T.len PySem.boot_len (pa_cons (pv 6) pa_nil)) pe_int (nomark _)) (pe_call (ok_law_from A) (hr.mono (by omega)) rfl A.law_from.m A.law_from.F.kp A.law_from.b .nil pass0 (pa_cons (pv 1) (pa_cons pe_int (pa_cons pe_int pa_nil)))) pe_int) pa_nil)) (pg_name (i := 7) sc_law.nd rfl (Or.inl rfl))
    (pss_cons (ps_set (i := 8) sc_law.nd rfl (Or.inl rfl) (pe_call (ok_law_next A) (hr.mono (by omega)) rfl A.law_next.m A.law_next.F.kp A.law_next.b .nil pass0 (pa_cons (pv 1) (pa_cons (pe_callB call_len_seq (by rfl) A.T.len PySem.boot_len (pa_cons (pv 6) pa_nil)) pa_nil))))
  (pss_cut (ps_if (pt_cmpR op_gt (pe_call (ok_law_next A) (hr.mono (by omega)) rfl A.law_next.m A.law_next.F.kp A.law_next.b .nil pass0 (pa_cons (pv 1) (pa_cons pe_int pa_nil))) pe_int (nomark _))
    (pss_one (ps_set (i := 8) sc_law.nd rfl (Or.inl rfl) (pe_op op_sub (pe_op op_sub (pe_callB call_len_seq (by rfl) A.T.len PySem.boot_len (pa_cons (pv 6) pa_nil)) pe_int) (pe_call (ok_law_next A) (hr.mono (by omega)) rfl A.law_next.m A.law_next.F.kp A.law_next.b .nil pass0 (pa_cons (pv 1) (pa_cons (pe_callB (call_min2 rfl) (by rfl) A.T.min (by decide +kernel) (pa_cons (pe_callB call_len_seq (by rfl) A.T.len PySem.boot_len (pa_cons (pv 6) pa_nil)) (pa_cons pe_int pa_nil))) pa_nil))))))
    pss_nil)
  (pss_cons (ps_set (i := 9) sc_law.nd rfl (Or.inl rfl) (pe_call (ok_law_strange A) (hr.mono (by omega)) rfl A.law_strange.m A.law_strange.F.kp A.law_strange.b .nil pass0 (pa_cons (pv 1) (pa_cons (pv 6) (pa_cons (pv 8) pa_nil)))))
  (pss_one (ps_asg (pv 9) (pg_sub (pv 6) (pv 8) set_list)))))))
  (pss_cut (ps_if (pt_cmpR op_eq (pe_call (ok_law_next A) (hr.mono (by omega)) rfl A.law_next.m A.law_next.F.kp A.law_next.b .nil pass0 (pa_cons (pv 1) (pa_cons pe_int pa_nil))) pe_int (nomark _))
    (pss_one (ps_expr (pe_bm PySem.F.plainAttrs_list PySem.F.slot_list_append PySem.F.type_list_append mt_append (pv 6) (pa_cons (pe_call (ok_law_strange A) (hr.mono (by omega)) rfl A.law_strange.m A.law_strange.F.kp A.law_strange.b .nil pass0 (pa_cons (pv 1) (pa_cons (pv 6) (pa_cons (pe_callB call_len_seq (by rfl) A.T.len PySem.boot_len (pa_cons (pv 6) pa_nil)) pa_nil)))) pa_nil))))
    pss_nil)
  (pss_one (ps_if (pt_not (pt_val (pe_call (ok_law_is_answered A Z) (hr.mono (by omega)) rfl A.law_is_answered.m A.law_is_answered.F.kp A.law_is_answered.b .nil pass0 (pa_cons (pv 3) (pa_cons (pv 6) pa_nil)))))
    (pss_one (ps_ret pe_bl))
    pss_nil))))))
  (pss_cons (ps_set (i := 10) sc_law.nd rfl (Or.inl rfl) (pe_call (ok_law_pick A) (hr.mono (by omega)) rfl A.law_pick.m A.law_pick.F.kp A.law_pick.b .nil pass0 (pa_cons (pv 1) (pa_cons (pe_lst (pa_cons (pe_callTy call_tuple_of (by rfl) A.T.tuple (by decide +kernel) (pa_cons (pv 4) pa_nil)) (pa_cons pe_non (pa_cons pe_dnewK (pa_cons pe_str (pa_cons pe_int (pa_cons pe_bl (pa_cons (pe_tup (pa_cons pe_str pa_nil)) (pa_cons (pe_lc (own := [("node", 12)]) (g := gName 12) rfl sc_law.nd (pi_list (pv 4)) (blkOk_by (own := [("node", 12)]) (N := ["script", "stream", "turn", "logic", "sheet", "k", "bent", "more", "at", "value", "whole", "strange", "node"]) (sc := defScope s_law) (by decide +kernel)) (fun _ _ _ _ _ => pg_name (i := 12) sc_law.nd rfl (Or.inl rfl)) (fun _ _ _ _ _ => pts_nil) (fun _ _ _ _ _ => (pe_callTy (r := rListK K) (call_listK K rfl) (by rfl) A.T.list (by decide +kernel) (pa_cons (pv 12) pa_nil)))) (pa_cons (pe_lst (pa_cons (pv 4) pa_nil)) (pa_cons (pe_lst (pa_cons pe_non pa_nil)) pa_nil))))))))))) pa_nil))))
  (pss_cons (ps_set (i := 11) sc_law.nd rfl (Or.inl rfl) (pe_call (ok_law_pick A) (hr.mono (by omega)) rfl A.law_pick.m A.law_pick.F.kp A.law_pick.b .nil pass0 (pa_cons (pv 1) (pa_cons (pe_lst (pa_cons pe_str (pa_cons pe_str (pa_cons pe_str (pa_cons pe_str (pa_cons pe_str (pa_cons pe_str (pa_cons pe_str (pa_cons pe_str (pa_cons pe_non (pa_cons pe_int (pa_cons pe_bl (pa_cons (pe_lst (pa_cons pe_str pa_nil)) (pa_cons (pe_tup (pa_cons pe_str pa_nil)) (pa_cons pe_dnewK pa_nil))))))))))))))) pa_nil))))
  (pss_cons (ps_if (pt_not (pt_val (pe_call (ok_law_is_answered A Z) (hr.mono (by omega)) rfl A.law_is_answered.m A.law_is_answered.F.kp A.law_is_answered.b .nil pass0 (pa_cons (pv 3) (pa_cons (pv 10) pa_nil)))))
    (pss_one (ps_ret pe_bl))
    pss_nil)
  (pss_one (ps_if (PW.pt (pw_or (pt_not (pt_val (pe_call (ok_law_same A) (hr.mono (by omega)) rfl A.law_same.m A.law_same.F.kp A.law_same.b .nil pass0 (pa_cons (pe_call (ok_law_ask A Z) (hr.mono (by omega)) rfl A.law_ask.m A.law_ask.F.kp A.law_ask.b .nil pass0 (pa_cons (pv 11) (pa_cons (pe_call (ok_law_pick A) (hr.mono (by omega)) rfl A.law_pick.m A.law_pick.F.kp A.law_pick.b .nil pass0 (pa_cons (pv 1) (pa_cons (pe_lst (pa_cons (pe_callTy call_list_of (by rfl) A.T.list (by decide +kernel) (pa_cons (pv 4) pa_nil)) (pa_cons (pv 10) pa_nil))) pa_nil))) pa_nil))) (pa_cons (pe_lst (pa_cons pe_str (pa_cons pe_str pa_nil))) pa_nil))))) (pw_or1 (pt_not (pt_val (pe_call (ok_law_is_answered A Z) (hr.mono (by omega)) rfl A.law_is_answered.m A.law_is_answered.F.kp A.law_is_answered.b .nil pass0 (pa_cons (pv 3) (pa_cons (pe_callTy call_list_of (by rfl) A.T.list (by decide +kernel) (pa_cons (pv 4) pa_nil)) pa_nil))))))))
    (pss_one (ps_ret pe_bl))
    pss_nil))))))))))
  (pss_one (ps_ret pe_bl)))), ?_⟩
    refine ⟨_, rfl, a, ns, rfl, hS, hl, fun s H1 ns0 hs a1 => ?_⟩
    have hs : StrAt [s] H1 s := by
      obtain ⟨l, ns, c, k, g1, g2, g3, g4, g5⟩ := hs
      exact ⟨l, ns, c, k, g1, g2, g3, g4, by simp; exact ne_of g2 g1 ne_lst_ints.symm⟩
    refine ⟨3, rfl, by decide, by decide, ?_⟩
    refine for_range (lo := 0) (n := 3) (fun i σ' H' => ∃ x2 x3 x4 x5 x6 x7 x8 x9 x10 x11 x12, σ' = [some (.ref a), some (.ref s), x2, x3, x4, x5, x6, x7, x8, x9, x10, x11, x12] ∧ StrAt [s] H' s) ⟨_, _, _, _, _, _, _, _, _, _, _, rfl, hs⟩ ?_ ?_
    · rintro i σ' H hi ⟨x2, x3, x4, x5, x6, x7, x8, x9, x10, x11, x12, rfl, hs⟩
      refine ⟨_, rfl, by show 5 ≤ sizeLine; decide, fun p np => ?_⟩
      have hs0 : StrAt [s] (upd H p (.tup [.str "classical", .str "intuit", .str "k", .str "s4", .str "gl"])) s := hs.same (Adv.new np)
      refine ⟨s, p, _, [s], rfl, hs0, .inr upd_same, fun z => hs.here (by rw [← z]; exact np), by simp, by decide, fun x H1 hx hs1 a1 => ?_⟩
      obtain ⟨y, rfl, hy⟩ : ∃ y : Str, x = V.str y ∧ logicOk y = true := by
        simp at hx
        rcases hx with h | h | h | h | h <;> exact ⟨_, h, by decide⟩
      refine ⟨fun σ' H' => ∃ x2 x5 x6 x7 x8 x9 x10 x11 x12 sh rs ds, σ' = [some (.ref a), some (.ref s), x2, some (.str y), some (.ref sh), x5, x6, x7, x8, x9, x10, x11, x12] ∧ ShAt H' s sh rs ds, ?_, ?_⟩
      · refine ⟨_, rfl, _, rfl, y, rfl, fun H2 a2 => ⟨_, rfl, iteB (fun e => ?_) (fun e => ?_)⟩⟩
        · have hs2 := hs1.same a2
          exact ⟨[s], s, true, rfl, hs2, by simp, by simpa using hs2.here, fun sh rs ds H' h1 h2 h3 h4 h5 h6 h7 => ⟨_, _, _, _, _, _, _, _, _, sh, rs, ds, rfl, h1, fun z => hs2.here (by rw [← z]; exact h3), h4, h5.less (by simp), h6, h7⟩⟩
        · refine ⟨_, rfl, s, 4, [s], rfl, hs1.same a2, by decide, by decide, fun d H3 d0 d1 hs3 a3 => ?_⟩
          exact ⟨rfl, [s], s, _, rfl, hs3, by simp, by simpa using hs3.here, fun sh rs ds H' h1 h2 h3 h4 h5 h6 h7 => ⟨_, _, _, _, _, _, _, _, _, sh, rs, ds, rfl, h1, fun z => hs3.here (by rw [← z]; exact h3), h4, h5.less (by simp), h6, h7⟩⟩
      · rintro σ' H ⟨x2, x5, x6, x7, x8, x9, x10, x11, x12, sh, rs, ds, rfl, X⟩
        have isl : ∀ {H1 : Hp} {l : Addr}, ShAt H1 s sh rs ds → H1 l = none → Is [] (upd H1 l (.lst rs)) (.list ds) (.ref l) := fun X1 nl => Is.lst upd_same (by simp) ((X1.rd.adv (Adv.nil (Adv.new nl))).less (by simp))
        have szl : sz (.list ds) ≤ 500000 := by
          have := sm_sz X.sm X.len
          rw [sz_lst]; omega
        have dpl : dep (.list ds) ≤ 8 := by
          have := sm_dep X.sm
          rw [dep_lst]; omega
        refine ⟨_, rfl, _, rfl, sh, rs, rfl, .inl (SqL.of X.at_), fun l nl => ⟨y, .ref l, .list ds, rfl, hy, isl X nl, szl, dpl, fun H2 a2 => ⟨true, rfl, iteN (by decide) ?_⟩⟩⟩
        have a2 := (Adv.new (M := []) (o := .lst rs) nl).trans a2
        have X2 := X.same a2
        refine ⟨8, rfl, by decide, by decide, ?_⟩
        refine for_range (lo := 0) (n := 8) (fun i σ' H' => ∃ x2 x5 x6 x7 x8 x9 x10 x11 x12, σ' = [some (.ref a), some (.ref s), x2, some (.str y), some (.ref sh), x5, x6, x7, x8, x9, x10, x11, x12] ∧ ShAt H' s sh rs ds) ⟨_, _, _, _, _, _, _, _, _, rfl, X2⟩ ?_ ?_
        · rintro i σ' H hi ⟨x2, x5, x6, x7, x8, x9, x10, x11, x12, rfl, X⟩
          refine ⟨_, rfl, sh, rs, rfl, .inl (SqL.of X.at_), fun bt nb => ?_⟩
          have B0 := X.bend nb
          have aB : Adv [bt, s] H (upd H bt (.lst rs)) := Adv.new nb
          have hrl := X.rd.len
          have hdl := X.len
          refine ⟨fun σ' H' => ∃ x2 x5 x7 x8 x9 x10 x11 x12 rs' ds', σ' = [some (.ref a), some (.ref s), x2, some (.str y), some (.ref sh), x5, some (.ref bt), x7, x8, x9, x10, x11, x12] ∧ BtAt H' s bt rs' ds' ∧ ds'.length ≤ 200 ∧ Adv [bt, s] H H', ?_, ?_⟩
          · refine ⟨_, rfl, bt, rs, rfl, .inl (SqL.of B0.at_), _, 0, rfl, rfl, _, rfl, iteB (fun e => ?_) (fun e => ?_)⟩
            · have hpos : 0 < rs.length := by have := of_decide_eq_true e; omega
              refine ⟨_, rfl, s, 1, 3, [bt, s], rfl, B0.str, by decide, by decide, fun c H1 c1 c3 hs1 a1 => ?_⟩
              have B1 := B0.adv a1 hs1
              refine ⟨c, rfl, by omega, by omega, ?_⟩
              refine for_range (lo := 0) (n := c.toNat) (fun i σ' H' => ∃ x2 x5 x7 x8 x9 x10 x11 x12 rs' ds', σ' = [some (.ref a), some (.ref s), x2, some (.str y), some (.ref sh), x5, some (.ref bt), x7, x8, x9, x10, x11, x12] ∧ BtAt H' s bt rs' ds' ∧ rs'.length = rs.length ∧ Adv [bt, s] H H') ⟨_, _, _, _, _, _, _, _, rs, ds, rfl, B1, rfl, aB.trans (a1.more (by simp))⟩ ?_ ?_
              · rintro j σ' H' hj ⟨x2, x5, x7, x8, x9, x10, x11, x12, rs', ds', rfl, B, hl', a'⟩
                refine ⟨_, rfl, _, rfl, bt, rs', rfl, .inl (SqL.of B.at_), s, _, [bt, s], rfl, B.str, by omega, by omega, fun d H2 d0 d1 hs2 a2 => ?_⟩
                have B2 := B.adv a2 hs2
                have a'2 := a'.trans (a2.more (N := [bt, s]) (by simp))
                refine ⟨fun σ' H' => ∃ (x2 x5 x7 x9 x10 x11 x12 : Option V) (at_ : Nat), σ' = [some (.ref a), some (.ref s), x2, some (.str y), some (.ref sh), x5, some (.ref bt), x7, some (.int at_), x9, x10, x11, x12] ∧ at_ < rs'.length ∧ BtAt H' s bt rs' ds' ∧ Adv [bt, s] H H', ?_, ?_⟩
                · refine ⟨_, rfl, s, 3, [bt, s], rfl, hs2, by decide, by decide, fun t H3 t0 t1 hs3 a3 => ⟨t, 0, rfl, rfl, _, rfl, iteB (fun e => ?_) (fun e => ?_)⟩⟩
                  · have B3 := B2.adv a3 hs3
                    have a'3 := a'2.trans (a3.more (N := [bt, s]) (by simp))
                    refine ⟨_, rfl, bt, rs', rfl, .inl (SqL.of B3.at_), _, _, rfl, rfl, _, rfl, _, rfl, bt, rs', rfl, .inl (SqL.of B3.at_), _, _, rfl, s, _, [bt, s], rfl, hs3, ?_, ?_, fun u H4 u0 u1 hs4 a4 => ?_⟩
                    · split <;> omega
                    · split <;> omega
                    · refine ⟨_, _, rfl, rfl, ?_⟩
                      have hu : u < (rs'.length : Int) := by
                        revert u1
                        split <;> omega
                      exact ⟨_, _, _, _, _, _, _, ((rs'.length : Int) - 1 - u).toNat, by rw [Int.toNat_of_nonneg (by omega)]; rfl, by omega, B3.adv a4 hs4, a'3.trans (a4.more (by simp))⟩
                  · exact ⟨_, _, _, _, _, _, _, d.toNat, by rw [Int.toNat_of_nonneg d0]; rfl, by omega, B2.adv a3 hs3, a'2.trans (a3.more (by simp))⟩
                · rintro σ' H' ⟨x2, x5, x7, x9, x10, x11, x12, at_, rfl, hat, B, a'⟩
                  refine ⟨_, rfl, _, rfl, _, rfl, [bt, s], s, bt, _, rs', ds', rfl, B.str, by simp, B.al, B.ne, B.at_, B.rd, by have := B.len; omega, B.sm, fun v dv H2 hv h1 h2 hs2 a2 => ?_⟩
                  have B2 := B.adv a2 hs2
                  refine ⟨_, rfl, _, rfl, _, rfl, bt, rs', _, at_, rfl, rfl, B2.at_, ixN_of hat, ?_⟩
                  exact ⟨_, _, _, _, _, _, _, _, _, _, rfl, B2.put at_ hv h1 h2, by rw [List.length_set]; exact hl', (a'.trans (a2.more (by simp))).setT (by simp)⟩
              · rintro σ' H' ⟨x2, x5, x7, x8, x9, x10, x11, x12, rs', ds', rfl, B, hl', a'⟩
                exact ⟨_, _, _, _, _, _, _, _, rs', ds', rfl, B, by rw [← B.rd.len]; omega, a'⟩
            · refine ⟨0, rfl, by decide, by decide, ?_⟩
              refine for_range (lo := 0) (n := 0) (fun i σ' H' => ∃ x2 x5 x7 x8 x9 x10 x11 x12 rs' ds', σ' = [some (.ref a), some (.ref s), x2, some (.str y), some (.ref sh), x5, some (.ref bt), x7, x8, x9, x10, x11, x12] ∧ BtAt H' s bt rs' ds' ∧ rs'.length = rs.length ∧ Adv [bt, s] H H') ⟨_, _, _, _, _, _, _, _, rs, ds, rfl, B0, rfl, aB⟩ (fun i _ _ h => absurd h (Nat.not_lt_zero _)) ?_
              rintro σ' H' ⟨x2, x5, x7, x8, x9, x10, x11, x12, rs', ds', rfl, B, hl', a'⟩
              exact ⟨_, _, _, _, _, _, _, _, rs', ds', rfl, B, by rw [← B.rd.len]; omega, a'⟩
          · rintro σ' H' ⟨x2, x5, x7, x8, x9, x10, x11, x12, rs', ds', rfl, B, hl', a'⟩
            refine ⟨fun σ' H' => ∃ x2 x5 x7 x8 x9 x10 x11 x12 rs' ds', σ' = [some (.ref a), some (.ref s), x2, some (.str y), some (.ref sh), x5, some (.ref bt), x7, x8, x9, x10, x11, x12] ∧ BtAt H' s bt rs' ds' ∧ Adv [bt, s] H H', ?_, ?_⟩
            · refine ⟨_, rfl, s, 3, [bt, s], rfl, B.str, by decide, by decide, fun t H2 t0 t1 hs2 a2 => ⟨rfl, _, rfl, iteB (fun e => ?_) (fun e => ?_)⟩⟩
              · have B2 := B.adv a2 hs2
                have a'2 := a'.trans (a2.more (N := [bt, s]) (by simp))
                refine ⟨_, rfl, .inl ⟨rfl, _, SqL.of B2.at_⟩, _, rfl, _, rfl, _, rfl, bt, rs', rfl, .inl (SqL.of B2.at_), [bt, s], s, bt, _, rs', ds', rfl, B2.str, by simp, B2.al, B2.ne, B2.at_, B2.rd, by omega, B2.sm, fun v dv H3 hv h1 h2 hs3 a3 => ?_⟩
                have B3 := B2.adv a3 hs3
                refine ⟨bt, rs', v, rfl, rfl, B3.at_, by rw [B3.rd.len, sizeLine_eq]; omega, ?_⟩
                exact ⟨_, _, _, _, _, _, _, _, _, _, rfl, B3.push hv h1 h2 hl', (a'2.trans (a3.more (by simp))).setT (by simp)⟩
              · exact ⟨_, _, _, _, _, _, _, _, rs', ds', rfl, B.adv a2 hs2, a'.trans (a2.more (by simp))⟩
            · rintro σ' H' ⟨x2, x5, x7, x8, x9, x10, x11, x12, rs', ds', rfl, B, a'⟩
              refine ⟨_, rfl, _, rfl, y, .ref bt, .list ds', rfl, hy, B.is, B.szB, B.depB, fun H2 a2 => ⟨true, rfl, iteN (by decide) ?_⟩⟩
              exact ⟨_, _, _, _, _, _, _, _, _, rfl, (B.same a2).sheet X nb (a'.trans (Adv.nil a2))⟩
        · rintro σ' H ⟨x2, x5, x6, x7, x8, x9, x10, x11, x12, rfl, X⟩
          refine ⟨_, rfl, _, rfl, sh, rs, rfl, .inl ⟨SqL.of X.at_, fun p1 n1 => ?_⟩⟩
          intro p2 n2
          refine ⟨by show 1 ≤ sizeLine; decide, fun p3 n3 => ?_⟩
          have c1 : Adv [] H (upd H p1 (.tup rs)) := Adv.new n1
          have c2 := c1.newT (o := .dK []) n2
          have c3 := c2.newT (o := .tup [.str "no"]) n3
          have d1 : Is [s] (upd H p1 (.tup rs)) (.tuple ds) (.ref p1) := Is.tup upd_same (by simpa using fun z => X.str.here (by rw [← z]; exact n1)) (X.rd.adv (Adv.nil c1))
          have s2 := X.str.same c1
          have d2 : Is [s] (upd (upd H p1 (.tup rs)) p2 (.dK [])) (.dict []) (.ref p2) := Is.dic upd_same (by simpa using fun z => s2.here (by rw [← z]; exact n2))
          have s3 := X.str.same c2
          have d3 : Is [s] (upd (upd (upd H p1 (.tup rs)) p2 (.dK [])) p3 (.tup [.str "no"])) (.tuple [.str "no"]) (.ref p3) := Is.tup upd_same (by simpa using fun z => s3.here (by rw [← z]; exact n3)) (.cons .str .nil)
          have X3 := X.same c3
          refine ⟨_, rfl, sh, rfl, ⟨_, SqL.of X3.at_⟩, fun D nD => ?_⟩
          refine lc_dataL (M := [s]) (K := K) (a := sh) (xs := rs) (ds.map toL) (by rw [List.length_map]; exact X.rd.len) nD (SqL.of X3.at_) (by have := X.rd.len; have := X.len; omega) ?_ ?_
          · intro i x dx H4 acc R hx hdx a4 hD k
            obtain ⟨d0, hd0, rfl⟩ : ∃ d0, ds[i]? = some d0 ∧ toL d0 = dx := by simpa using hdx
            obtain ⟨_, _, ks, rfl⟩ := X.sm d0 (List.mem_of_getElem? hd0)
            obtain ⟨x', hx', isx⟩ := X3.rd.get hd0
            rw [hx] at hx'
            cases hx'
            obtain ⟨b, ys, rfl, nb, hb, hys⟩ := isx.tupE
            refine ⟨rfl, _, rfl, b, ys, rfl, .inr (SqT.of (a4.same _ _ hb)), fun l nl => ?_⟩
            have al4 : ∀ b ∈ D :: [s], H4 b ≠ none := fun c hc => by
              rcases List.mem_cons.mp hc with e | hc
              · rw [e, hD]; simp
              · rw [List.mem_singleton.mp hc]; exact (X3.str.same a4).here
            refine k _ _ (by rw [upd_ne (fun z => by rw [← z, hD] at nl; cases nl)]; exact hD) (Adv.new nl) ?_
            exact Is.lst upd_same (not_mem_new al4 nl) (((hys.fresh nD).adv (Adv.nil a4)).adv (Adv.nil (Adv.new nl)))
          · intro H4 acc a4 hD hacc
            have s4 := X3.str.same a4
            have d8 : Is [s] H4 (.list (ds.map toL)) (.ref D) := Is.lst hD (by simpa using fun z => X3.str.here (by rw [← z]; exact nD)) (hacc.less (by simp +contextual))
            refine ⟨_, rfl, by show 1 ≤ sizeLine; decide, fun p5 n5 => ?_⟩
            have c5 : Adv [] H4 (upd H4 p5 (.lst [.ref sh])) := Adv.new n5
            have X4 := X3.same a4
            have X5 := X4.same c5
            have d9 : Is [s] (upd H4 p5 (.lst [.ref sh])) (.list [.list ds]) (.ref p5) := Is.lst upd_same (by simpa using fun z => s4.here (by rw [← z]; exact n5)) (.cons X5.is .nil)
            refine ⟨by show 1 ≤ sizeLine; decide, fun p6 n6 => ?_⟩
            have c6 := c5.newT (o := .lst [.non]) n6
            have d10 : Is [s] (upd (upd H4 p5 (.lst [.ref sh])) p6 (.lst [.non])) (.list [.none]) (.ref p6) := Is.lst upd_same (by simpa using fun z => X5.str.here (by rw [← z]; exact n6)) (.cons .non .nil)
            refine ⟨by show 10 ≤ sizeLine; decide, fun p7 n7 => ?_⟩
            have c7 := c6.newT (o := .lst [.ref p1, .non, .ref p2, .str "no", .int 0, .bl true, .ref p3, .ref D, .ref p5, .ref p6]) n7
            have X6 := X4.same c6
            have X7 := X4.same c7
            have hx7 : IsDs [s] (upd (upd (upd H4 p5 (.lst [.ref sh])) p6 (.lst [.non])) p7 (.lst [.ref p1, .non, .ref p2, .str "no", .int 0, .bl true, .ref p3, .ref D, .ref p5, .ref p6])) (wholeD ds) [.ref p1, .non, .ref p2, .str "no", .int 0, .bl true, .ref p3, .ref D, .ref p5, .ref p6] := by
              have e2 : Adv [] (upd H p1 (.tup rs)) _ := (((Adv.new n2).trans (Adv.new n3)).trans a4).trans c7
              have e3 : Adv [] (upd (upd H p1 (.tup rs)) p2 (.dK [])) _ := ((Adv.new n3).trans a4).trans c7
              have e5 : Adv [] (upd H4 p5 (.lst [.ref sh])) _ := (Adv.new n6).trans (Adv.new (o := .lst [.ref p1, .non, .ref p2, .str "no", .int 0, .bl true, .ref p3, .ref D, .ref p5, .ref p6]) n7)
              exact .cons (d1.adv (Adv.nil e2)) (.cons .non (.cons (d2.adv (Adv.nil e3)) (.cons .str (.cons .int (.cons .bl (.cons (d3.adv (Adv.nil (a4.trans c7))) (.cons (d8.adv (Adv.nil c7)) (.cons (d9.adv (Adv.nil e5)) (.cons (d10.adv (Adv.nil (Adv.new n7))) .nil)))))))))
            refine ⟨s, p7, _, [s], rfl, X7.str, .inl upd_same, fun z => X6.str.here (by rw [← z]; exact n7), by simp, by show 10 < 1073741824; decide, fun vw H8 hw hs8 a8 => ?_⟩
            obtain ⟨iw, hiw⟩ := List.getElem?_of_mem hw
            obtain ⟨dw, hdw, isw⟩ := hx7.getV hiw
            have hdm := List.mem_of_getElem? hdw
            have X8 := X7.adv a8 hs8
            have W8 := isw.adv a8
            have szw := whole_sz X.sm X.len dw hdm
            have dpw := whole_dep X.sm dw hdm
            clear hx7 d1 d2 d3 d8 d9 d10
            refine asg_pick (M := [s]) rfl wdSt (by simpa using hs8.here) fun p8 xs8 H9 hp8 hx8 np8 a9 => ?_
            have hl8 := hx8.len
            refine ⟨s, p8, xs8, [s], rfl, X8.str.same a9, .inl hp8, by simpa using np8, fun z => (by rw [z] at hl8; cases hl8), (by rw [hl8]; decide), fun vg Hg hvg hsg ag => ?_⟩
            obtain ⟨ig, hig⟩ := List.getElem?_of_mem hvg
            obtain ⟨dg, hdg, isg⟩ := hx8.getV hig
            have hno := wdS_no dg (List.mem_of_getElem? hdg)
            have XG := (X8.same a9).adv ag hsg
            have WG := (W8.adv (Adv.nil a9)).adv ag
            have isg := isg.adv ag
            clear hx8 hx W8 hdg
            refine ⟨_, rfl, _, rfl, y, vw, dw, rfl, hy, WG.less (by simp), by omega, dpw, fun HA aA => ⟨true, rfl, iteN (by decide) ?_⟩⟩
            have XA := XG.same aA
            have WA := WG.adv (Adv.nil aA)
            have isA := isg.adv (Adv.nil aA)
            refine ⟨_, rfl, _, rfl, _, rfl, sh, rs, rfl, .inl (SqL.of XA.at_), fun l nl => ⟨_, rfl, by show 2 ≤ sizeLine; decide, fun q8 nq => ?_⟩⟩
            have f1 : Adv [] HA (upd HA l (.lst rs)) := Adv.new nl
            have f2 := f1.newT (o := .lst [.ref l, vw]) nq
            have XB := XA.same f1
            have XC := XA.same f2
            refine ⟨s, q8, _, [s], rfl, XC.str, .inl upd_same, fun z => XB.str.here (by rw [← z]; exact nq), by simp, by show 2 < 1073741824; decide, fun v2 HB hv2 hsB aB => ?_⟩
            have XD := XC.adv aB hsB
            obtain ⟨d2, is2, sz2⟩ : ∃ d2, Is [] HB d2 v2 ∧ sz d2 ≤ 500000 := by
              simp only [List.mem_cons, List.not_mem_nil, or_false] at hv2
              rcases hv2 with rfl | rfl
              · have i1 : Is [s] (upd HA l (.lst rs)) (.list ds) (.ref l) := Is.lst upd_same (by simpa using fun z => XA.str.here (by rw [← z]; exact nl)) (XA.rd.adv (Adv.nil f1))
                exact ⟨.list ds, ((i1.adv (Adv.nil (Adv.new nq))).adv aB).less (by simp), szl⟩
              · exact ⟨dw, ((WA.adv (Adv.nil f2)).adv aB).less (by simp), by omega⟩
            have isD := ((isA.adv (Adv.nil f2)).adv aB).less (N := []) (by simp)
            refine ⟨vg, v2, dg, d2, rfl, isD, is2, ?_, fun va HC hva aC => ?_⟩
            · intro es e
              subst e
              have := szL_len es
              rw [sz_lst] at sz2
              omega
            rw [askD_not hno] at hva
            refine ⟨by show 2 ≤ sizeLine; decide, fun p9 n9 => ?_⟩
            have f3 := aC.newT (o := .lst [.str "other", .str "BadLogic"]) n9
            refine ⟨va, .ref p9, otherD, rfl, hva.adv (Adv.new n9), Is.lst upd_same (by simp) (.cons .str (.cons .str .nil)), by simp [otherD, sz_lst, szL_cons, szL_nil, sz1_str], fun HE aE => ⟨true, rfl, iteN (by decide) ?_⟩⟩
            have XE := (XD.same f3).same aE
            refine ⟨_, rfl, _, rfl, sh, rs, rfl, .inl (SqL.of XE.at_), fun l2 nl2 => ⟨y, .ref l2, .list ds, rfl, hy, isl XE nl2, szl, dpl, fun HF aF => ⟨true, rfl, iteN (by decide) ?_⟩⟩⟩
            exact ⟨_, _, _, _, _, _, _, _, _, _, _, rfl, ((XE.same (Adv.new nl2)).same aF).str⟩
    · rintro σ' H' ⟨x2, x3, x4, x5, x6, x7, x8, x9, x10, x11, x12, rfl, hs⟩
      exact q H'
end
end K01

set_option Elab.async false
set_option linter.all false
set_option maxRecDepth 100000
set_option maxHeartbeats 4000000
namespace K01
open PySem PySem.Spec PyProof.Rows L2 LL
/-! what the top has written -/
theorem kit_of {K : PySem.W.Frag} {D C : Addr} {b : Bool} (ht : PySem.W.typeIn K (.ref C) = some (.type "type")) (hd : PySem.W.hasDictIn K C = true) (h : PySem.W.subIn K (.ref D) (.ref C) = some b) (self : PySem.W.subIn K (.ref D) (.ref D) = some true) : PySem.W.kitOne K (.ref D) (.ref C) = some b := by
  unfold PySem.W.kitOne
  by_cases e : D = C
  · subst e
    rw [h] at self
    rw [if_pos (by simp)]
    exact self.symm
  · rw [if_neg (by simpa using e)]
    obtain ⟨cd, hc, _⟩ := PySem.W.any_some hd
    show (if ((PySem.W.clsIn K C).isSome && PySem.W.typeIn K (.ref C) == some (.type "type")) = true then PySem.W.subIn K (.ref D) (.ref C) else none) = some b
    rw [if_pos (by rw [hc, ht]; rfl)]
    exact h
theorem kit_val {K : PySem.W.Frag} {D : Addr} (h : PySem.W.subIn K (.ref D) (.type "ValueError") = some true) : PySem.W.kitOne K (.ref D) (.type "ValueError") = some true := by
  unfold PySem.W.kitOne
  rw [if_neg (by simp)]
  show (if PySem.W.kitMeta "ValueError" = true then PySem.W.subIn K (.ref D) (.type "ValueError") else none) = some true
  rw [if_pos (by decide +kernel)]
  exact h
theorem rv_str {x : Str} {t : Tok} : RelV (.str x) (.str x t) := ⟨t, rfl⟩
theorem sqT_K {K : PySem.W.Frag} {a : Addr} {od : Option Addr} {its : Array Value} {n : Nat} {sl : Array (Option Value)} {xs : List V} (h : K.lookup a = some ⟨.type "tuple", od, .seq its n, sl⟩) (hz : its.size ≤ sizeLine) (r : Vals xs its.toList) (H : Hp) : SqT K H a xs :=
  .inr ⟨_, its, n, h, rfl, rfl, hz, r⟩
theorem find_map {z : Str} : ∀ l : List DictEntry, (l.find? (·.key.isStr z)).map (·.val) = ((l.map fun e => (e.key, e.val)).find? fun p => p.1.isStr z).map (·.2)
  | [] => rfl
  | e :: l => by
    rw [List.map_cons, List.find?_cons, List.find?_cons]
    show Option.map _ (match e.key.isStr z with | true => _ | false => _) = Option.map _ (match e.key.isStr z with | true => _ | false => _)
    cases e.key.isStr z with
    | true => rfl
    | false => exact find_map l
theorem any_map : ∀ l : List DictEntry, l.any (·.refKey) = (l.map fun e => (e.key, e.val)).any fun p => match p.1 with | .ref _ => true | _ => false
  | [] => rfl
  | e :: l => by
    rw [List.map_cons, List.any_cons, List.any_cons, any_map l]
    rfl
theorem items_at {K : PySem.W.Frag} {a : Addr} {es : Array DictEntry} {n : Nat} {i1 i2 i3 i4 i5 i6 j1 j2 j3 j4 j5 j6 : Tok} (h : K.lookup a = some ⟨.type "dict", none, .dict es n, #[]⟩)
    (e : es.toList.map (fun e => (e.key, e.val)) = [(.str "letter" i1, .int 2 j1), (.str "no" i2, .int 1 j2), (.str "and" i3, .int 3 j3), (.str "or" i4, .int 3 j4), (.str "if" i5, .int 3 j5), (.str "box" i6, .int 2 j6)]) (z : Str) :
    ∃ r, PySem.W.nsIn K a z = some r ∧ RelV (match nItems z with | some k => V.int (k : Nat) | none => V.non) (r.getD .none) := by
  have f := find_map (z := z) es.toList
  have g := any_map es.toList
  rw [e] at f g
  have g' : es.toList.any (·.refKey) = false := g
  unfold PySem.W.nsIn
  rw [h]
  show ∃ r, (match es.toList.find? (·.key.isStr z) with | some e => some (some e.val) | none => if es.toList.any (·.refKey) then none else some none) = some r ∧ _
  rw [g']
  have step : ∀ r : Option Value, (es.toList.find? (·.key.isStr z)).map (·.val) = r → RelV (match nItems z with | some k => V.int (k : Nat) | none => V.non) (r.getD .none) →
      ∃ r, (match es.toList.find? (·.key.isStr z) with | some e => some (some e.val) | none => if false = true then none else some none) = some r ∧ RelV (match nItems z with | some k => V.int (k : Nat) | none => V.non) (r.getD .none) := by
    intro r hr rel
    cases q : es.toList.find? (·.key.isStr z) with
    | none =>
      rw [q] at hr
      exact ⟨none, rfl, by rw [← hr] at rel; exact rel⟩
    | some en =>
      rw [q] at hr
      exact ⟨some en.val, rfl, by rw [← hr] at rel; exact rel⟩
  refine step _ f ?_
  have iS : ∀ (x : Str) (t : Tok), Value.isStr (.str x t) z = (x == z) := fun _ _ => rfl
  by_cases h1 : z = "letter"
  · subst h1; exact ⟨_, rfl⟩
  by_cases h2 : z = "no"
  · subst h2; exact ⟨_, rfl⟩
  by_cases h3 : z = "and"
  · subst h3; exact ⟨_, rfl⟩
  by_cases h4 : z = "or"
  · subst h4; exact ⟨_, rfl⟩
  by_cases h5 : z = "if"
  · subst h5; exact ⟨_, rfl⟩
  by_cases h6 : z = "box"
  · subst h6; exact ⟨_, rfl⟩
  have n0 : nItems z = none := by
    unfold nItems
    rw [if_neg h1, if_neg h2, if_neg h3, if_neg h4, if_neg h5, if_neg h6]
  rw [n0]
  have ne : ∀ x : Str, z ≠ x → (x == z) = false := fun x hx => by simpa using fun e => hx e.symm
  simp only [List.find?_cons, iS, ne _ h1, ne _ h2, ne _ h3, ne _ h4, ne _ h5, ne _ h6, List.find?_nil]
  rfl
theorem all_mk {P : Program} {w : World} {K : PySem.W.Frag} {h : Heap} {mg : Str → Option Value} {fa : Addr} (X : K.In h) (G : h.Ns mainGlobals mg) (hfa : mg "law" = some (.ref fa))
    {od1 an1 : Option Addr} {sl1 : Array (Option Value)} {oc1 kV1 dc1 pm1 cd1 ct1 : Value} {f1 : Addr}
    {od2 an2 : Option Addr} {sl2 : Array (Option Value)} {oc2 kV2 dc2 pm2 cd2 ct2 : Value} {f2 : Addr}
    {od3 an3 : Option Addr} {sl3 : Array (Option Value)} {oc3 kV3 dc3 pm3 cd3 ct3 : Value} {f3 : Addr}
    {od4 an4 : Option Addr} {sl4 : Array (Option Value)} {oc4 kV4 dc4 pm4 cd4 ct4 : Value} {f4 : Addr}
    {od5 an5 : Option Addr} {sl5 : Array (Option Value)} {oc5 kV5 dc5 pm5 cd5 ct5 : Value} {f5 : Addr}
    {od6 an6 : Option Addr} {sl6 : Array (Option Value)} {oc6 kV6 dc6 pm6 cd6 ct6 : Value} {f6 : Addr}
    {od7 an7 : Option Addr} {sl7 : Array (Option Value)} {oc7 kV7 dc7 pm7 cd7 ct7 : Value} {f7 : Addr}
    {od8 an8 : Option Addr} {sl8 : Array (Option Value)} {oc8 kV8 dc8 pm8 cd8 ct8 : Value} {f8 : Addr}
    {od9 an9 : Option Addr} {sl9 : Array (Option Value)} {oc9 kV9 dc9 pm9 cd9 ct9 : Value} {f9 : Addr}
    {od10 an10 : Option Addr} {sl10 : Array (Option Value)} {oc10 kV10 dc10 pm10 cd10 ct10 : Value} {f10 : Addr}
    {od11 an11 : Option Addr} {sl11 : Array (Option Value)} {oc11 kV11 dc11 pm11 cd11 ct11 : Value} {f11 : Addr}
    {od12 an12 : Option Addr} {sl12 : Array (Option Value)} {oc12 kV12 dc12 pm12 cd12 ct12 : Value} {f12 : Addr}
    {od13 an13 : Option Addr} {sl13 : Array (Option Value)} {oc13 kV13 dc13 pm13 cd13 ct13 : Value} {f13 : Addr}
    {od14 an14 : Option Addr} {sl14 : Array (Option Value)} {oc14 kV14 dc14 pm14 cd14 ct14 : Value} {f14 : Addr}
    {od15 an15 : Option Addr} {sl15 : Array (Option Value)} {oc15 kV15 dc15 pm15 cd15 ct15 : Value} {f15 : Addr}
    {od16 an16 : Option Addr} {sl16 : Array (Option Value)} {oc16 kV16 dc16 pm16 cd16 ct16 : Value} {f16 : Addr}
    {od17 an17 : Option Addr} {sl17 : Array (Option Value)} {oc17 kV17 dc17 pm17 cd17 ct17 : Value} {f17 : Addr}
    {od18 an18 : Option Addr} {sl18 : Array (Option Value)} {oc18 kV18 dc18 pm18 cd18 ct18 : Value} {f18 : Addr}
    {od19 an19 : Option Addr} {sl19 : Array (Option Value)} {oc19 kV19 dc19 pm19 cd19 ct19 : Value} {f19 : Addr}
    {od20 an20 : Option Addr} {sl20 : Array (Option Value)} {oc20 kV20 dc20 pm20 cd20 ct20 : Value} {f20 : Addr}
    {od21 an21 : Option Addr} {sl21 : Array (Option Value)} {oc21 kV21 dc21 pm21 cd21 ct21 : Value} {f21 : Addr}
    {od22 an22 : Option Addr} {sl22 : Array (Option Value)} {oc22 kV22 dc22 pm22 cd22 ct22 : Value} {f22 : Addr}
    {od23 an23 : Option Addr} {sl23 : Array (Option Value)} {oc23 kV23 dc23 pm23 cd23 ct23 : Value} {f23 : Addr}
    {od24 an24 : Option Addr} {sl24 : Array (Option Value)} {oc24 kV24 dc24 pm24 cd24 ct24 : Value} {f24 : Addr}
    {od25 an25 : Option Addr} {sl25 : Array (Option Value)} {oc25 kV25 dc25 pm25 cd25 ct25 : Value} {f25 : Addr}
    {od26 an26 : Option Addr} {sl26 : Array (Option Value)} {oc26 kV26 dc26 pm26 cd26 ct26 : Value} {f26 : Addr}
    {od27 an27 : Option Addr} {sl27 : Array (Option Value)} {oc27 kV27 dc27 pm27 cd27 ct27 : Value} {f27 : Addr}
    {od28 an28 : Option Addr} {sl28 : Array (Option Value)} {oc28 kV28 dc28 pm28 cd28 ct28 : Value} {f28 : Addr}
    {od29 an29 : Option Addr} {sl29 : Array (Option Value)} {oc29 kV29 dc29 pm29 cd29 ct29 : Value} {f29 : Addr}
    {od30 an30 : Option Addr} {sl30 : Array (Option Value)} {oc30 kV30 dc30 pm30 cd30 ct30 : Value} {f30 : Addr}
    {aM aLo ai : Addr} {odM odL : Option Addr} {nM nL nI : Nat} {slM slL : Array (Option Value)} {es : Array DictEntry} {m1 m2 m3 g1 g2 g3 g4 g5 ll mr i1 i2 i3 i4 i5 i6 j1 j2 j3 j4 j5 j6 : Tok}
    {L S cBadClaim cBadModel cBadPaper cBadTerm cBadEdit cBadValue cBadText cBadSize cTooMany cNotBoxed cNotProved cNotThere cNothingToUndo cNothingToRedo CE : Addr}
    {od0 an0 : Option Addr} {sl0 : Array (Option Value)} {oc0 kV0 dc0 pm0 cd0 ct0 : Value} {f0 : Addr}
    (a1 : PySem.W.nsIn K mainGlobals "is_integer" = some (some (.ref f1)))
    (l1 : K.lookup f1 = some ⟨oc1, od1, .func (PySem.W.fnOf "is_integer" "is_integer" (defArgs s_is_integer) (defBody s_is_integer) (defScope s_is_integer) .none kV1 dc1 pm1 an1 cd1 ct1), sl1⟩)
    (c1 : PySem.W.codeIn K cd1 "is_integer" = true)
    (k1 : PySem.W.keepIn K (.ref f1) = true)
    (a2 : PySem.W.nsIn K mainGlobals "is_between" = some (some (.ref f2)))
    (l2 : K.lookup f2 = some ⟨oc2, od2, .func (PySem.W.fnOf "is_between" "is_between" (defArgs s_is_between) (defBody s_is_between) (defScope s_is_between) .none kV2 dc2 pm2 an2 cd2 ct2), sl2⟩)
    (c2 : PySem.W.codeIn K cd2 "is_between" = true)
    (k2 : PySem.W.keepIn K (.ref f2) = true)
    (a3 : PySem.W.nsIn K mainGlobals "check_logic" = some (some (.ref f3)))
    (l3 : K.lookup f3 = some ⟨oc3, od3, .func (PySem.W.fnOf "check_logic" "check_logic" (defArgs s_check_logic) (defBody s_check_logic) (defScope s_check_logic) .none kV3 dc3 pm3 an3 cd3 ct3), sl3⟩)
    (c3 : PySem.W.codeIn K cd3 "check_logic" = true)
    (k3 : PySem.W.keepIn K (.ref f3) = true)
    (a4 : PySem.W.nsIn K mainGlobals "is_boxed" = some (some (.ref f4)))
    (l4 : K.lookup f4 = some ⟨oc4, od4, .func (PySem.W.fnOf "is_boxed" "is_boxed" (defArgs s_is_boxed) (defBody s_is_boxed) (defScope s_is_boxed) .none kV4 dc4 pm4 an4 cd4 ct4), sl4⟩)
    (c4 : PySem.W.codeIn K cd4 "is_boxed" = true)
    (k4 : PySem.W.keepIn K (.ref f4) = true)
    (a5 : PySem.W.nsIn K mainGlobals "is_node" = some (some (.ref f5)))
    (l5 : K.lookup f5 = some ⟨oc5, od5, .func (PySem.W.fnOf "is_node" "is_node" (defArgs s_is_node) (defBody s_is_node) (defScope s_is_node) .none kV5 dc5 pm5 an5 cd5 ct5), sl5⟩)
    (c5 : PySem.W.codeIn K cd5 "is_node" = true)
    (k5 : PySem.W.keepIn K (.ref f5) = true)
    (a6 : PySem.W.nsIn K mainGlobals "wrong_row" = some (some (.ref f6)))
    (l6 : K.lookup f6 = some ⟨oc6, od6, .func (PySem.W.fnOf "wrong_row" "wrong_row" (defArgs s_wrong_row) (defBody s_wrong_row) (defScope s_wrong_row) .none kV6 dc6 pm6 an6 cd6 ct6), sl6⟩)
    (c6 : PySem.W.codeIn K cd6 "wrong_row" = true)
    (k6 : PySem.W.keepIn K (.ref f6) = true)
    (a7 : PySem.W.nsIn K mainGlobals "check_rows_of" = some (some (.ref f7)))
    (l7 : K.lookup f7 = some ⟨oc7, od7, .func (PySem.W.fnOf "check_rows_of" "check_rows_of" (defArgs s_check_rows_of) (defBody s_check_rows_of) (defScope s_check_rows_of) .none kV7 dc7 pm7 an7 cd7 ct7), sl7⟩)
    (c7 : PySem.W.codeIn K cd7 "check_rows_of" = true)
    (k7 : PySem.W.keepIn K (.ref f7) = true)
    (a8 : PySem.W.nsIn K mainGlobals "check_sheet" = some (some (.ref f8)))
    (l8 : K.lookup f8 = some ⟨oc8, od8, .func (PySem.W.fnOf "check_sheet" "check_sheet" (defArgs s_check_sheet) (defBody s_check_sheet) (defScope s_check_sheet) .none kV8 dc8 pm8 an8 cd8 ct8), sl8⟩)
    (c8 : PySem.W.codeIn K cd8 "check_sheet" = true)
    (k8 : PySem.W.keepIn K (.ref f8) = true)
    (a9 : PySem.W.nsIn K mainGlobals "_law_stream" = some (some (.ref f9)))
    (l9 : K.lookup f9 = some ⟨oc9, od9, .func (PySem.W.fnOf "_law_stream" "_law_stream" (defArgs s_law_stream) (defBody s_law_stream) (defScope s_law_stream) .none kV9 dc9 pm9 an9 cd9 ct9), sl9⟩)
    (c9 : PySem.W.codeIn K cd9 "_law_stream" = true)
    (k9 : PySem.W.keepIn K (.ref f9) = true)
    (a10 : PySem.W.nsIn K mainGlobals "_law_next" = some (some (.ref f10)))
    (l10 : K.lookup f10 = some ⟨oc10, od10, .func (PySem.W.fnOf "_law_next" "_law_next" (defArgs s_law_next) (defBody s_law_next) (defScope s_law_next) .none kV10 dc10 pm10 an10 cd10 ct10), sl10⟩)
    (c10 : PySem.W.codeIn K cd10 "_law_next" = true)
    (k10 : PySem.W.keepIn K (.ref f10) = true)
    (a11 : PySem.W.nsIn K mainGlobals "_law_pick" = some (some (.ref f11)))
    (l11 : K.lookup f11 = some ⟨oc11, od11, .func (PySem.W.fnOf "_law_pick" "_law_pick" (defArgs s_law_pick) (defBody s_law_pick) (defScope s_law_pick) .none kV11 dc11 pm11 an11 cd11 ct11), sl11⟩)
    (c11 : PySem.W.codeIn K cd11 "_law_pick" = true)
    (k11 : PySem.W.keepIn K (.ref f11) = true)
    (a12 : PySem.W.nsIn K mainGlobals "_law_from" = some (some (.ref f12)))
    (l12 : K.lookup f12 = some ⟨oc12, od12, .func (PySem.W.fnOf "_law_from" "_law_from" (defArgs s_law_from) (defBody s_law_from) (defScope s_law_from) .none kV12 dc12 pm12 an12 cd12 ct12), sl12⟩)
    (c12 : PySem.W.codeIn K cd12 "_law_from" = true)
    (k12 : PySem.W.keepIn K (.ref f12) = true)
    (a13 : PySem.W.nsIn K mainGlobals "_law_number" = some (some (.ref f13)))
    (l13 : K.lookup f13 = some ⟨oc13, od13, .func (PySem.W.fnOf "_law_number" "_law_number" (defArgs s_law_number) (defBody s_law_number) (defScope s_law_number) .none kV13 dc13 pm13 an13 cd13 ct13), sl13⟩)
    (c13 : PySem.W.codeIn K cd13 "_law_number" = true)
    (k13 : PySem.W.keepIn K (.ref f13) = true)
    (a14 : PySem.W.nsIn K mainGlobals "_law_same" = some (some (.ref f14)))
    (l14 : K.lookup f14 = some ⟨oc14, od14, .func (PySem.W.fnOf "_law_same" "_law_same" (defArgs s_law_same) (defBody s_law_same) (defScope s_law_same) .none kV14 dc14 pm14 an14 cd14 ct14), sl14⟩)
    (c14 : PySem.W.codeIn K cd14 "_law_same" = true)
    (k14 : PySem.W.keepIn K (.ref f14) = true)
    (a15 : PySem.W.nsIn K mainGlobals "_law_copy" = some (some (.ref f15)))
    (l15 : K.lookup f15 = some ⟨oc15, od15, .func (PySem.W.fnOf "_law_copy" "_law_copy" (defArgs s_law_copy) (defBody s_law_copy) (defScope s_law_copy) .none kV15 dc15 pm15 an15 cd15 ct15), sl15⟩)
    (c15 : PySem.W.codeIn K cd15 "_law_copy" = true)
    (k15 : PySem.W.keepIn K (.ref f15) = true)
    (a16 : PySem.W.nsIn K mainGlobals "_law_named" = some (some (.ref f16)))
    (l16 : K.lookup f16 = some ⟨oc16, od16, .func (PySem.W.fnOf "_law_named" "_law_named" (defArgs s_law_named) (defBody s_law_named) (defScope s_law_named) .none kV16 dc16 pm16 an16 cd16 ct16), sl16⟩)
    (c16 : PySem.W.codeIn K cd16 "_law_named" = true)
    (k16 : PySem.W.keepIn K (.ref f16) = true)
    (a17 : PySem.W.nsIn K mainGlobals "_law_row" = some (some (.ref f17)))
    (l17 : K.lookup f17 = some ⟨oc17, od17, .func (PySem.W.fnOf "_law_row" "_law_row" (defArgs s_law_row) (defBody s_law_row) (defScope s_law_row) .none kV17 dc17 pm17 an17 cd17 ct17), sl17⟩)
    (c17 : PySem.W.codeIn K cd17 "_law_row" = true)
    (k17 : PySem.W.keepIn K (.ref f17) = true)
    (a18 : PySem.W.nsIn K mainGlobals "_law_leaf" = some (some (.ref f18)))
    (l18 : K.lookup f18 = some ⟨oc18, od18, .func (PySem.W.fnOf "_law_leaf" "_law_leaf" (defArgs s_law_leaf) (defBody s_law_leaf) (defScope s_law_leaf) .none kV18 dc18 pm18 an18 cd18 ct18), sl18⟩)
    (c18 : PySem.W.codeIn K cd18 "_law_leaf" = true)
    (k18 : PySem.W.keepIn K (.ref f18) = true)
    (a19 : PySem.W.nsIn K mainGlobals "_law_tree" = some (some (.ref f19)))
    (l19 : K.lookup f19 = some ⟨oc19, od19, .func (PySem.W.fnOf "_law_tree" "_law_tree" (defArgs s_law_tree) (defBody s_law_tree) (defScope s_law_tree) .none kV19 dc19 pm19 an19 cd19 ct19), sl19⟩)
    (c19 : PySem.W.codeIn K cd19 "_law_tree" = true)
    (k19 : PySem.W.keepIn K (.ref f19) = true)
    (a20 : PySem.W.nsIn K mainGlobals "_law_heap" = some (some (.ref f20)))
    (l20 : K.lookup f20 = some ⟨oc20, od20, .func (PySem.W.fnOf "_law_heap" "_law_heap" (defArgs s_law_heap) (defBody s_law_heap) (defScope s_law_heap) .none kV20 dc20 pm20 an20 cd20 ct20), sl20⟩)
    (c20 : PySem.W.codeIn K cd20 "_law_heap" = true)
    (k20 : PySem.W.keepIn K (.ref f20) = true)
    (a21 : PySem.W.nsIn K mainGlobals "_law_formula" = some (some (.ref f21)))
    (l21 : K.lookup f21 = some ⟨oc21, od21, .func (PySem.W.fnOf "_law_formula" "_law_formula" (defArgs s_law_formula) (defBody s_law_formula) (defScope s_law_formula) .none kV21 dc21 pm21 an21 cd21 ct21), sl21⟩)
    (c21 : PySem.W.codeIn K cd21 "_law_formula" = true)
    (k21 : PySem.W.keepIn K (.ref f21) = true)
    (a22 : PySem.W.nsIn K mainGlobals "_law_is_boxed" = some (some (.ref f22)))
    (l22 : K.lookup f22 = some ⟨oc22, od22, .func (PySem.W.fnOf "_law_is_boxed" "_law_is_boxed" (defArgs s_law_is_boxed) (defBody s_law_is_boxed) (defScope s_law_is_boxed) .none kV22 dc22 pm22 an22 cd22 ct22), sl22⟩)
    (c22 : PySem.W.codeIn K cd22 "_law_is_boxed" = true)
    (k22 : PySem.W.keepIn K (.ref f22) = true)
    (a23 : PySem.W.nsIn K mainGlobals "_law_is_node" = some (some (.ref f23)))
    (l23 : K.lookup f23 = some ⟨oc23, od23, .func (PySem.W.fnOf "_law_is_node" "_law_is_node" (defArgs s_law_is_node) (defBody s_law_is_node) (defScope s_law_is_node) .none kV23 dc23 pm23 an23 cd23 ct23), sl23⟩)
    (c23 : PySem.W.codeIn K cd23 "_law_is_node" = true)
    (k23 : PySem.W.keepIn K (.ref f23) = true)
    (a24 : PySem.W.nsIn K mainGlobals "_law_wrong_row" = some (some (.ref f24)))
    (l24 : K.lookup f24 = some ⟨oc24, od24, .func (PySem.W.fnOf "_law_wrong_row" "_law_wrong_row" (defArgs s_law_wrong_row) (defBody s_law_wrong_row) (defScope s_law_wrong_row) .none kV24 dc24 pm24 an24 cd24 ct24), sl24⟩)
    (c24 : PySem.W.codeIn K cd24 "_law_wrong_row" = true)
    (k24 : PySem.W.keepIn K (.ref f24) = true)
    (a25 : PySem.W.nsIn K mainGlobals "_law_raw" = some (some (.ref f25)))
    (l25 : K.lookup f25 = some ⟨oc25, od25, .func (PySem.W.fnOf "_law_raw" "_law_raw" (defArgs s_law_raw) (defBody s_law_raw) (defScope s_law_raw) .none kV25 dc25 pm25 an25 cd25 ct25), sl25⟩)
    (c25 : PySem.W.codeIn K cd25 "_law_raw" = true)
    (k25 : PySem.W.keepIn K (.ref f25) = true)
    (a26 : PySem.W.nsIn K mainGlobals "_law_sheet" = some (some (.ref f26)))
    (l26 : K.lookup f26 = some ⟨oc26, od26, .func (PySem.W.fnOf "_law_sheet" "_law_sheet" (defArgs s_law_sheet) (defBody s_law_sheet) (defScope s_law_sheet) .none kV26 dc26 pm26 an26 cd26 ct26), sl26⟩)
    (c26 : PySem.W.codeIn K cd26 "_law_sheet" = true)
    (k26 : PySem.W.keepIn K (.ref f26) = true)
    (a27 : PySem.W.nsIn K mainGlobals "_law_strange" = some (some (.ref f27)))
    (l27 : K.lookup f27 = some ⟨oc27, od27, .func (PySem.W.fnOf "_law_strange" "_law_strange" (defArgs s_law_strange) (defBody s_law_strange) (defScope s_law_strange) .none kV27 dc27 pm27 an27 cd27 ct27), sl27⟩)
    (c27 : PySem.W.codeIn K cd27 "_law_strange" = true)
    (k27 : PySem.W.keepIn K (.ref f27) = true)
    (a28 : PySem.W.nsIn K mainGlobals "_law_ask" = some (some (.ref f28)))
    (l28 : K.lookup f28 = some ⟨oc28, od28, .func (PySem.W.fnOf "_law_ask" "_law_ask" (defArgs s_law_ask) (defBody s_law_ask) (defScope s_law_ask) .none kV28 dc28 pm28 an28 cd28 ct28), sl28⟩)
    (c28 : PySem.W.codeIn K cd28 "_law_ask" = true)
    (k28 : PySem.W.keepIn K (.ref f28) = true)
    (a29 : PySem.W.nsIn K mainGlobals "_law_is_answered" = some (some (.ref f29)))
    (l29 : K.lookup f29 = some ⟨oc29, od29, .func (PySem.W.fnOf "_law_is_answered" "_law_is_answered" (defArgs s_law_is_answered) (defBody s_law_is_answered) (defScope s_law_is_answered) .none kV29 dc29 pm29 an29 cd29 ct29), sl29⟩)
    (c29 : PySem.W.codeIn K cd29 "_law_is_answered" = true)
    (k29 : PySem.W.keepIn K (.ref f29) = true)
    (a30 : PySem.W.nsIn K mainGlobals "law" = some (some (.ref f30)))
    (l30 : K.lookup f30 = some ⟨oc30, od30, .func (PySem.W.fnOf "law" "law" (defArgs s_law) (defBody s_law) (defScope s_law) .none kV30 dc30 pm30 an30 cd30 ct30), sl30⟩)
    (c30 : PySem.W.codeIn K cd30 "law" = true)
    (k30 : PySem.W.keepIn K (.ref f30) = true)
    (z_ValueError : PySem.W.nsIn K mainGlobals "ValueError" = some none)
    (z_abs : PySem.W.nsIn K mainGlobals "abs" = some none)
    (z_all : PySem.W.nsIn K mainGlobals "all" = some none)
    (z_bool : PySem.W.nsIn K mainGlobals "bool" = some none)
    (z_dict : PySem.W.nsIn K mainGlobals "dict" = some none)
    (z_enumerate : PySem.W.nsIn K mainGlobals "enumerate" = some none)
    (z_int : PySem.W.nsIn K mainGlobals "int" = some none)
    (z_isinstance : PySem.W.nsIn K mainGlobals "isinstance" = some none)
    (z_len : PySem.W.nsIn K mainGlobals "len" = some none)
    (z_list : PySem.W.nsIn K mainGlobals "list" = some none)
    (z_min : PySem.W.nsIn K mainGlobals "min" = some none)
    (z_range : PySem.W.nsIn K mainGlobals "range" = some none)
    (z_str : PySem.W.nsIn K mainGlobals "str" = some none)
    (z_tuple : PySem.W.nsIn K mainGlobals "tuple" = some none)
    (aMo : PySem.W.nsIn K mainGlobals "MODAL" = some (some (.ref aM)))
    (lMo : K.lookup aM = some ⟨.type "tuple", odM, .seq #[.str "k" m1, .str "s4" m2, .str "gl" m3] nM, slM⟩)
    (aLg : PySem.W.nsIn K mainGlobals "LOGICS" = some (some (.ref aLo)))
    (lLg : K.lookup aLo = some ⟨.type "tuple", odL, .seq #[.str "classical" g1, .str "intuit" g2, .str "k" g3, .str "s4" g4, .str "gl" g5] nL, slL⟩)
    (aIt : PySem.W.nsIn K mainGlobals "ITEMS" = some (some (.ref ai)))
    (lIt : K.lookup ai = some ⟨.type "dict", none, .dict es nI, #[]⟩)
    (eIt : es.toList.map (fun e => (e.key, e.val)) = [(.str "letter" i1, .int 2 j1), (.str "no" i2, .int 1 j2), (.str "and" i3, .int 3 j3), (.str "or" i4, .int 3 j4), (.str "if" i5, .int 3 j5), (.str "box" i6, .int 2 j6)])
    (kIt : PySem.W.KeysLit w.params es.toList)
    (sIt : (ai == sysModules) = false)
    (aLL : PySem.W.nsIn K mainGlobals "LAST_LETTER" = some (some (.int 7 ll)))
    (aMR : PySem.W.nsIn K mainGlobals "MOST_ROWS" = some (some (.int 60 mr)))
    (a_BadLogic : PySem.W.nsIn K mainGlobals "BadLogic" = some (some (.ref L)))
    (a_BadSheet : PySem.W.nsIn K mainGlobals "BadSheet" = some (some (.ref S)))
    (a_BadClaim : PySem.W.nsIn K mainGlobals "BadClaim" = some (some (.ref cBadClaim)))
    (a_BadModel : PySem.W.nsIn K mainGlobals "BadModel" = some (some (.ref cBadModel)))
    (a_BadPaper : PySem.W.nsIn K mainGlobals "BadPaper" = some (some (.ref cBadPaper)))
    (a_BadTerm : PySem.W.nsIn K mainGlobals "BadTerm" = some (some (.ref cBadTerm)))
    (a_BadEdit : PySem.W.nsIn K mainGlobals "BadEdit" = some (some (.ref cBadEdit)))
    (a_BadValue : PySem.W.nsIn K mainGlobals "BadValue" = some (some (.ref cBadValue)))
    (a_BadText : PySem.W.nsIn K mainGlobals "BadText" = some (some (.ref cBadText)))
    (a_BadSize : PySem.W.nsIn K mainGlobals "BadSize" = some (some (.ref cBadSize)))
    (a_TooMany : PySem.W.nsIn K mainGlobals "TooMany" = some (some (.ref cTooMany)))
    (a_NotBoxed : PySem.W.nsIn K mainGlobals "NotBoxed" = some (some (.ref cNotBoxed)))
    (a_NotProved : PySem.W.nsIn K mainGlobals "NotProved" = some (some (.ref cNotProved)))
    (a_NotThere : PySem.W.nsIn K mainGlobals "NotThere" = some (some (.ref cNotThere)))
    (a_NothingToUndo : PySem.W.nsIn K mainGlobals "NothingToUndo" = some (some (.ref cNothingToUndo)))
    (a_NothingToRedo : PySem.W.nsIn K mainGlobals "NothingToRedo" = some (some (.ref cNothingToRedo)))
    (a_CourtError : PySem.W.nsIn K mainGlobals "CourtError" = some (some (.ref CE)))
    (t_BadLogic : PySem.W.typeIn K (.ref L) = some (.type "type"))
    (h_BadLogic : PySem.W.hasDictIn K L = true)
    (l_BadLogic : PySem.W.subIn K (.ref L) (.ref L) = some true)
    (s_BadLogic : PySem.W.subIn K (.ref S) (.ref L) = some false)
    (t_BadSheet : PySem.W.typeIn K (.ref S) = some (.type "type"))
    (h_BadSheet : PySem.W.hasDictIn K S = true)
    (l_BadSheet : PySem.W.subIn K (.ref L) (.ref S) = some false)
    (s_BadSheet : PySem.W.subIn K (.ref S) (.ref S) = some true)
    (t_BadClaim : PySem.W.typeIn K (.ref cBadClaim) = some (.type "type"))
    (h_BadClaim : PySem.W.hasDictIn K cBadClaim = true)
    (l_BadClaim : PySem.W.subIn K (.ref L) (.ref cBadClaim) = some false)
    (s_BadClaim : PySem.W.subIn K (.ref S) (.ref cBadClaim) = some false)
    (t_BadModel : PySem.W.typeIn K (.ref cBadModel) = some (.type "type"))
    (h_BadModel : PySem.W.hasDictIn K cBadModel = true)
    (l_BadModel : PySem.W.subIn K (.ref L) (.ref cBadModel) = some false)
    (s_BadModel : PySem.W.subIn K (.ref S) (.ref cBadModel) = some false)
    (t_BadPaper : PySem.W.typeIn K (.ref cBadPaper) = some (.type "type"))
    (h_BadPaper : PySem.W.hasDictIn K cBadPaper = true)
    (l_BadPaper : PySem.W.subIn K (.ref L) (.ref cBadPaper) = some false)
    (s_BadPaper : PySem.W.subIn K (.ref S) (.ref cBadPaper) = some false)
    (t_BadTerm : PySem.W.typeIn K (.ref cBadTerm) = some (.type "type"))
    (h_BadTerm : PySem.W.hasDictIn K cBadTerm = true)
    (l_BadTerm : PySem.W.subIn K (.ref L) (.ref cBadTerm) = some false)
    (s_BadTerm : PySem.W.subIn K (.ref S) (.ref cBadTerm) = some false)
    (t_BadEdit : PySem.W.typeIn K (.ref cBadEdit) = some (.type "type"))
    (h_BadEdit : PySem.W.hasDictIn K cBadEdit = true)
    (l_BadEdit : PySem.W.subIn K (.ref L) (.ref cBadEdit) = some false)
    (s_BadEdit : PySem.W.subIn K (.ref S) (.ref cBadEdit) = some false)
    (t_BadValue : PySem.W.typeIn K (.ref cBadValue) = some (.type "type"))
    (h_BadValue : PySem.W.hasDictIn K cBadValue = true)
    (l_BadValue : PySem.W.subIn K (.ref L) (.ref cBadValue) = some false)
    (s_BadValue : PySem.W.subIn K (.ref S) (.ref cBadValue) = some false)
    (t_BadText : PySem.W.typeIn K (.ref cBadText) = some (.type "type"))
    (h_BadText : PySem.W.hasDictIn K cBadText = true)
    (l_BadText : PySem.W.subIn K (.ref L) (.ref cBadText) = some false)
    (s_BadText : PySem.W.subIn K (.ref S) (.ref cBadText) = some false)
    (t_BadSize : PySem.W.typeIn K (.ref cBadSize) = some (.type "type"))
    (h_BadSize : PySem.W.hasDictIn K cBadSize = true)
    (l_BadSize : PySem.W.subIn K (.ref L) (.ref cBadSize) = some false)
    (s_BadSize : PySem.W.subIn K (.ref S) (.ref cBadSize) = some false)
    (t_TooMany : PySem.W.typeIn K (.ref cTooMany) = some (.type "type"))
    (h_TooMany : PySem.W.hasDictIn K cTooMany = true)
    (l_TooMany : PySem.W.subIn K (.ref L) (.ref cTooMany) = some false)
    (s_TooMany : PySem.W.subIn K (.ref S) (.ref cTooMany) = some false)
    (t_NotBoxed : PySem.W.typeIn K (.ref cNotBoxed) = some (.type "type"))
    (h_NotBoxed : PySem.W.hasDictIn K cNotBoxed = true)
    (l_NotBoxed : PySem.W.subIn K (.ref L) (.ref cNotBoxed) = some false)
    (s_NotBoxed : PySem.W.subIn K (.ref S) (.ref cNotBoxed) = some false)
    (t_NotProved : PySem.W.typeIn K (.ref cNotProved) = some (.type "type"))
    (h_NotProved : PySem.W.hasDictIn K cNotProved = true)
    (l_NotProved : PySem.W.subIn K (.ref L) (.ref cNotProved) = some false)
    (s_NotProved : PySem.W.subIn K (.ref S) (.ref cNotProved) = some false)
    (t_NotThere : PySem.W.typeIn K (.ref cNotThere) = some (.type "type"))
    (h_NotThere : PySem.W.hasDictIn K cNotThere = true)
    (l_NotThere : PySem.W.subIn K (.ref L) (.ref cNotThere) = some false)
    (s_NotThere : PySem.W.subIn K (.ref S) (.ref cNotThere) = some false)
    (t_NothingToUndo : PySem.W.typeIn K (.ref cNothingToUndo) = some (.type "type"))
    (h_NothingToUndo : PySem.W.hasDictIn K cNothingToUndo = true)
    (l_NothingToUndo : PySem.W.subIn K (.ref L) (.ref cNothingToUndo) = some false)
    (s_NothingToUndo : PySem.W.subIn K (.ref S) (.ref cNothingToUndo) = some false)
    (t_NothingToRedo : PySem.W.typeIn K (.ref cNothingToRedo) = some (.type "type"))
    (h_NothingToRedo : PySem.W.hasDictIn K cNothingToRedo = true)
    (l_NothingToRedo : PySem.W.subIn K (.ref L) (.ref cNothingToRedo) = some false)
    (s_NothingToRedo : PySem.W.subIn K (.ref S) (.ref cNothingToRedo) = some false)
    (t_CourtError : PySem.W.typeIn K (.ref CE) = some (.type "type"))
    (h_CourtError : PySem.W.hasDictIn K CE = true)
    (l_CourtError : PySem.W.subIn K (.ref L) (.ref CE) = some true)
    (s_CourtError : PySem.W.subIn K (.ref S) (.ref CE) = some true)
    (vL : PySem.W.subIn K (.ref L) (.type "ValueError") = some true)
    (bL : PySem.W.subIn K (.ref L) (.type "BaseException") = some true)
    (gaL : PySem.W.findIn K (.ref L) "__getattribute__" = some (some (.builtin "BaseException.__getattribute__")))
    (ggL : PySem.W.findIn K (.ref L) "__getattr__" = some none)
    (gcL : PySem.W.findIn K (.ref L) "__class__" = some (some (.builtin "object.__class__")))
    (moL : PySem.W.mroIn K L (.type "object") = some true)
    (kpL : PySem.W.keepIn K (.ref L) = true)
    (vS : PySem.W.subIn K (.ref S) (.type "ValueError") = some true)
    (bS : PySem.W.subIn K (.ref S) (.type "BaseException") = some true)
    (gaS : PySem.W.findIn K (.ref S) "__getattribute__" = some (some (.builtin "BaseException.__getattribute__")))
    (ggS : PySem.W.findIn K (.ref S) "__getattr__" = some none)
    (gcS : PySem.W.findIn K (.ref S) "__class__" = some (some (.builtin "object.__class__")))
    (moS : PySem.W.mroIn K S (.type "object") = some true)
    (kpS : PySem.W.keepIn K (.ref S) = true)
    (bC : PySem.W.subIn K (.ref CE) (.type "BaseException") = some true)
    (spc : PySem.W.specialIn K (.builtin "object.__class__") "__get__" = some (some (.builtin "getset_descriptor.__get__")))
    (tkc : PySem.W.takesIn K (.builtin "object.__class__") = some true)
    (xL : PySem.W.excIn K L [.type "ValueError", .type "Exception", .type "BaseException", .type "object"] "ValueError.__new__" = true)
    (xS : ∃ nm q N bs bm sn sub ab col dd k0 k1 k2 k3 k5, K.lookup S = some (excClassObj nm q S N bs bm true sn sub ab col dd k0 k1 k2 k3 k5 "ValueError.__new__") ∧ PySem.HandSPX.refsVE bm = true)
    (saS : PySem.W.findIn K (.ref S) "__setattr__" = some (some (.builtin "object.__setattr__")))
    (noS : PySem.W.findIn K (.ref S) "row" = some none)
    (iS : PySem.W.findIn K (.ref S) "__init__" = some (some (.ref f0)))
    (tI : PySem.W.typeIn K (.ref f0) = some (.type "function"))
    (l0 : K.lookup f0 = some ⟨oc0, od0, .func (PySem.W.fnOf "__init__" "BadSheet.__init__" (defArgs s_init) (defBody s_init) (defScope s_init) .none kV0 dc0 pm0 an0 cd0 ct0), sl0⟩)
    (c0 : PySem.W.codeIn K cd0 "BadSheet.__init__" = true)
    (k0 : PySem.W.keepIn K (.ref f0) = true) :
    ∃ fd : FuncData, (∀ (s : Shared) (v : Value), BindsTo s fd ⟨[v], []⟩ [("script", v)]) ∧ ∀ base : Heap, K.In base → base.Ns mainGlobals mg → FnOk P w K mg base CX0 18 fa fd ["script"] (spLaw K) := by
  have e := hfa.symm.trans (PySem.W.mg_of X G a30)
  cases e
  have F1 := fun_mk (st := s_is_integer) l1 c1 k1
  have B1 := F1.binds (ps := ["value"]) fun _ _ _ _ _ _ us hl => match us, hl with | [_], _ => rfl
  have F2 := fun_mk (st := s_is_between) l2 c2 k2
  have B2 := F2.binds (ps := ["value", "low", "high"]) fun _ _ _ _ _ _ us hl => match us, hl with | [_, _, _], _ => rfl
  have F3 := fun_mk (st := s_check_logic) l3 c3 k3
  have B3 := F3.binds (ps := ["logic"]) fun _ _ _ _ _ _ us hl => match us, hl with | [_], _ => rfl
  have F4 := fun_mk (st := s_is_boxed) l4 c4 k4
  have B4 := F4.binds (ps := ["logic"]) fun _ _ _ _ _ _ us hl => match us, hl with | [_], _ => rfl
  have F5 := fun_mk (st := s_is_node) l5 c5 k5
  have B5 := F5.binds (ps := ["value", "row", "boxed"]) fun _ _ _ _ _ _ us hl => match us, hl with | [_, _, _], _ => rfl
  have F6 := fun_mk (st := s_wrong_row) l6 c6 k6
  have B6 := F6.binds (ps := ["value", "most", "boxed"]) fun _ _ _ _ _ _ us hl => match us, hl with | [_, _, _], _ => rfl
  have F7 := fun_mk (st := s_check_rows_of) l7 c7 k7
  have B7 := F7.binds (ps := ["sheet", "most", "boxed"]) fun _ _ _ _ _ _ us hl => match us, hl with | [_, _, _], _ => rfl
  have F8 := fun_mk (st := s_check_sheet) l8 c8 k8
  have B8 := F8.binds (ps := ["logic", "sheet"]) fun _ _ _ _ _ _ us hl => match us, hl with | [_, _], _ => rfl
  have F9 := fun_mk (st := s_law_stream) l9 c9 k9
  have B9 := F9.binds (ps := ["script"]) fun _ _ _ _ _ _ us hl => match us, hl with | [_], _ => rfl
  have F10 := fun_mk (st := s_law_next) l10 c10 k10
  have B10 := F10.binds (ps := ["stream", "many"]) fun _ _ _ _ _ _ us hl => match us, hl with | [_, _], _ => rfl
  have F11 := fun_mk (st := s_law_pick) l11 c11 k11
  have B11 := F11.binds (ps := ["stream", "rows"]) fun _ _ _ _ _ _ us hl => match us, hl with | [_, _], _ => rfl
  have F12 := fun_mk (st := s_law_from) l12 c12 k12
  have B12 := F12.binds (ps := ["stream", "low", "high"]) fun _ _ _ _ _ _ us hl => match us, hl with | [_, _, _], _ => rfl
  have F13 := fun_mk (st := s_law_number) l13 c13 k13
  have B13 := F13.binds (ps := ["value", "low", "high"]) fun _ _ _ _ _ _ us hl => match us, hl with | [_, _, _], _ => rfl
  have F14 := fun_mk (st := s_law_same) l14 c14 k14
  have B14 := F14.binds (ps := ["actual", "due"]) fun _ _ _ _ _ _ us hl => match us, hl with | [_, _], _ => rfl
  have F15 := fun_mk (st := s_law_copy) l15 c15 k15
  have B15 := F15.binds (ps := ["value"]) fun _ _ _ _ _ _ us hl => match us, hl with | [_], _ => rfl
  have F16 := fun_mk (st := s_law_named) l16 c16 k16
  have B16 := F16.binds (ps := ["error"]) fun _ _ _ _ _ _ us hl => match us, hl with | [_], _ => rfl
  have F17 := fun_mk (st := s_law_row) l17 c17 k17
  have B17 := F17.binds (ps := ["book", "node"]) fun _ _ _ _ _ _ us hl => match us, hl with | [_, _], _ => rfl
  have F18 := fun_mk (st := s_law_leaf) l18 c18 k18
  have B18 := F18.binds (ps := ["stream", "book", "letters"]) fun _ _ _ _ _ _ us hl => match us, hl with | [_, _, _], _ => rfl
  have F19 := fun_mk (st := s_law_tree) l19 c19 k19
  have B19 := F19.binds (ps := ["stream", "book", "letters", "many", "boxed"]) fun _ _ _ _ _ _ us hl => match us, hl with | [_, _, _, _, _], _ => rfl
  have F20 := fun_mk (st := s_law_heap) l20 c20 k20
  have B20 := F20.binds (ps := ["stream", "book", "letters", "many", "boxed"]) fun _ _ _ _ _ _ us hl => match us, hl with | [_, _, _, _, _], _ => rfl
  have F21 := fun_mk (st := s_law_formula) l21 c21 k21
  have B21 := F21.binds (ps := ["stream", "book", "letters", "many", "boxed"]) fun _ _ _ _ _ _ us hl => match us, hl with | [_, _, _, _, _], _ => rfl
  have F22 := fun_mk (st := s_law_is_boxed) l22 c22 k22
  have B22 := F22.binds (ps := ["logic"]) fun _ _ _ _ _ _ us hl => match us, hl with | [_], _ => rfl
  have F23 := fun_mk (st := s_law_is_node) l23 c23 k23
  have B23 := F23.binds (ps := ["value", "at", "boxed"]) fun _ _ _ _ _ _ us hl => match us, hl with | [_, _, _], _ => rfl
  have F24 := fun_mk (st := s_law_wrong_row) l24 c24 k24
  have B24 := F24.binds (ps := ["value", "most", "boxed"]) fun _ _ _ _ _ _ us hl => match us, hl with | [_, _, _], _ => rfl
  have F25 := fun_mk (st := s_law_raw) l25 c25 k25
  have B25 := F25.binds (ps := ["stream", "many", "boxed"]) fun _ _ _ _ _ _ us hl => match us, hl with | [_, _, _], _ => rfl
  have F26 := fun_mk (st := s_law_sheet) l26 c26 k26
  have B26 := F26.binds (ps := ["stream", "boxed"]) fun _ _ _ _ _ _ us hl => match us, hl with | [_, _], _ => rfl
  have F27 := fun_mk (st := s_law_strange) l27 c27 k27
  have B27 := F27.binds (ps := ["stream", "sheet", "at"]) fun _ _ _ _ _ _ us hl => match us, hl with | [_, _, _], _ => rfl
  have F28 := fun_mk (st := s_law_ask) l28 c28 k28
  have B28 := F28.binds (ps := ["logic", "sheet"]) fun _ _ _ _ _ _ us hl => match us, hl with | [_, _], _ => rfl
  have F29 := fun_mk (st := s_law_is_answered) l29 c29 k29
  have B29 := F29.binds (ps := ["logic", "sheet"]) fun _ _ _ _ _ _ us hl => match us, hl with | [_, _], _ => rfl
  have F30 := fun_mk (st := s_law) l30 c30 k30
  have B30 := F30.binds (ps := ["script"]) fun _ _ _ _ _ _ us hl => match us, hl with | [_], _ => rfl
  have F0 := fun_mk (st := s_init) l0 c0 k0
  have B0 := F0.binds (ps := ["self", "row"]) fun _ _ _ _ _ _ us hl => match us, hl with | [_, _], _ => rfl
  have T : Txt K mg := ⟨PySem.W.mg_none_of X G z_ValueError, PySem.W.mg_none_of X G z_abs, PySem.W.mg_none_of X G z_all, PySem.W.mg_none_of X G z_bool, PySem.W.mg_none_of X G z_dict, PySem.W.mg_none_of X G z_enumerate, PySem.W.mg_none_of X G z_int, PySem.W.mg_none_of X G z_isinstance, PySem.W.mg_none_of X G z_len, PySem.W.mg_none_of X G z_list, PySem.W.mg_none_of X G z_min, PySem.W.mg_none_of X G z_range, PySem.W.mg_none_of X G z_str, PySem.W.mg_none_of X G z_tuple⟩
  have C : Con K mg w := ⟨⟨aM, PySem.W.mg_of X G aMo, fun H => sqT_K lMo (by show 3 ≤ sizeLine; decide) (.cons rv_str (.cons rv_str (.cons rv_str .nil))) H⟩,
    ⟨aLo, PySem.W.mg_of X G aLg, fun H => sqT_K lLg (by show 5 ≤ sizeLine; decide) (.cons rv_str (.cons rv_str (.cons rv_str (.cons rv_str (.cons rv_str .nil))))) H⟩,
    ⟨ai, es, nI, PySem.W.mg_of X G aIt, ⟨lIt, kIt, sIt⟩, items_at lIt eIt⟩, ⟨_, PySem.W.mg_of X G aLL⟩, ⟨_, PySem.W.mg_of X G aMR⟩⟩
  let A : All K mg w := ⟨T, C, ⟨_, _, F1, PySem.W.mg_of X G a1, B1⟩, ⟨_, _, F2, PySem.W.mg_of X G a2, B2⟩, ⟨_, _, F3, PySem.W.mg_of X G a3, B3⟩, ⟨_, _, F4, PySem.W.mg_of X G a4, B4⟩, ⟨_, _, F5, PySem.W.mg_of X G a5, B5⟩, ⟨_, _, F6, PySem.W.mg_of X G a6, B6⟩, ⟨_, _, F7, PySem.W.mg_of X G a7, B7⟩, ⟨_, _, F8, PySem.W.mg_of X G a8, B8⟩, ⟨_, _, F9, PySem.W.mg_of X G a9, B9⟩, ⟨_, _, F10, PySem.W.mg_of X G a10, B10⟩, ⟨_, _, F11, PySem.W.mg_of X G a11, B11⟩, ⟨_, _, F12, PySem.W.mg_of X G a12, B12⟩, ⟨_, _, F13, PySem.W.mg_of X G a13, B13⟩, ⟨_, _, F14, PySem.W.mg_of X G a14, B14⟩, ⟨_, _, F15, PySem.W.mg_of X G a15, B15⟩, ⟨_, _, F16, PySem.W.mg_of X G a16, B16⟩, ⟨_, _, F17, PySem.W.mg_of X G a17, B17⟩, ⟨_, _, F18, PySem.W.mg_of X G a18, B18⟩, ⟨_, _, F19, PySem.W.mg_of X G a19, B19⟩, ⟨_, _, F20, PySem.W.mg_of X G a20, B20⟩, ⟨_, _, F21, PySem.W.mg_of X G a21, B21⟩, ⟨_, _, F22, PySem.W.mg_of X G a22, B22⟩, ⟨_, _, F23, PySem.W.mg_of X G a23, B23⟩, ⟨_, _, F24, PySem.W.mg_of X G a24, B24⟩, ⟨_, _, F25, PySem.W.mg_of X G a25, B25⟩, ⟨_, _, F26, PySem.W.mg_of X G a26, B26⟩, ⟨_, _, F27, PySem.W.mg_of X G a27, B27⟩, ⟨_, _, F28, PySem.W.mg_of X G a28, B28⟩, ⟨_, _, F29, PySem.W.mg_of X G a29, B29⟩, ⟨_, _, F30, PySem.W.mg_of X G a30, B30⟩⟩
  let Z : Exs K mg := ⟨L, S, CE, PySem.W.mg_of X G a_BadLogic, PySem.W.mg_of X G a_BadSheet, PySem.W.mg_of X G a_CourtError, xL, kpL, bL, t_BadLogic, ⟨xS, saS, bS, t_BadSheet, kpS⟩, _, _, iS, tI, F0, B0, ⟨gaS, ggS, bS, h_BadSheet⟩, noS, ⟨gaL, ggL, bL, h_BadLogic, gcL, spc, tkc, moL⟩, ⟨gaS, ggS, bS, h_BadSheet, gcS, spc, tkc, moS⟩, PySem.W.exm_ref bS h_BadSheet t_BadSheet s_BadSheet, PySem.W.exm_ref bS h_BadSheet t_BadSheet l_BadSheet, PySem.W.exm_ref bC h_CourtError t_CourtError l_CourtError, kit_of t_BadLogic h_BadLogic l_BadLogic l_BadLogic, kit_of t_BadSheet h_BadSheet l_BadSheet l_BadLogic, kit_of t_BadLogic h_BadLogic s_BadLogic s_BadSheet, kit_of t_BadSheet h_BadSheet s_BadSheet s_BadSheet, kit_of t_CourtError h_CourtError l_CourtError l_BadLogic, kit_of t_CourtError h_CourtError s_CourtError s_BadSheet, kit_val vL, kit_val vS, cBadClaim, PySem.W.mg_of X G a_BadClaim, kit_of t_BadClaim h_BadClaim l_BadClaim l_BadLogic, kit_of t_BadClaim h_BadClaim s_BadClaim s_BadSheet, cBadModel, PySem.W.mg_of X G a_BadModel, kit_of t_BadModel h_BadModel l_BadModel l_BadLogic, kit_of t_BadModel h_BadModel s_BadModel s_BadSheet, cBadPaper, PySem.W.mg_of X G a_BadPaper, kit_of t_BadPaper h_BadPaper l_BadPaper l_BadLogic, kit_of t_BadPaper h_BadPaper s_BadPaper s_BadSheet, cBadTerm, PySem.W.mg_of X G a_BadTerm, kit_of t_BadTerm h_BadTerm l_BadTerm l_BadLogic, kit_of t_BadTerm h_BadTerm s_BadTerm s_BadSheet, cBadEdit, PySem.W.mg_of X G a_BadEdit, kit_of t_BadEdit h_BadEdit l_BadEdit l_BadLogic, kit_of t_BadEdit h_BadEdit s_BadEdit s_BadSheet, cBadValue, PySem.W.mg_of X G a_BadValue, kit_of t_BadValue h_BadValue l_BadValue l_BadLogic, kit_of t_BadValue h_BadValue s_BadValue s_BadSheet, cBadText, PySem.W.mg_of X G a_BadText, kit_of t_BadText h_BadText l_BadText l_BadLogic, kit_of t_BadText h_BadText s_BadText s_BadSheet, cBadSize, PySem.W.mg_of X G a_BadSize, kit_of t_BadSize h_BadSize l_BadSize l_BadLogic, kit_of t_BadSize h_BadSize s_BadSize s_BadSheet, cTooMany, PySem.W.mg_of X G a_TooMany, kit_of t_TooMany h_TooMany l_TooMany l_BadLogic, kit_of t_TooMany h_TooMany s_TooMany s_BadSheet, cNotBoxed, PySem.W.mg_of X G a_NotBoxed, kit_of t_NotBoxed h_NotBoxed l_NotBoxed l_BadLogic, kit_of t_NotBoxed h_NotBoxed s_NotBoxed s_BadSheet, cNotProved, PySem.W.mg_of X G a_NotProved, kit_of t_NotProved h_NotProved l_NotProved l_BadLogic, kit_of t_NotProved h_NotProved s_NotProved s_BadSheet, cNotThere, PySem.W.mg_of X G a_NotThere, kit_of t_NotThere h_NotThere l_NotThere l_BadLogic, kit_of t_NotThere h_NotThere s_NotThere s_BadSheet, cNothingToUndo, PySem.W.mg_of X G a_NothingToUndo, kit_of t_NothingToUndo h_NothingToUndo l_NothingToUndo l_BadLogic, kit_of t_NothingToUndo h_NothingToUndo s_NothingToUndo s_BadSheet, cNothingToRedo, PySem.W.mg_of X G a_NothingToRedo, kit_of t_NothingToRedo h_NothingToRedo l_NothingToRedo l_BadLogic, kit_of t_NothingToRedo h_NothingToRedo s_NothingToRedo s_BadSheet⟩
  exact ⟨A.law.fd, fun s v => .of_eq rfl, fun base _ _ => ok_law A Z⟩
end K01

set_option Elab.async false
set_option linter.all false
set_option maxRecDepth 100000
open PySem PySem.W PyProof.Rows
set_option maxRecDepth 100000 in
set_option maxHeartbeats 0 in
theorem PySem.Challenge.cw_provedorshown_k01_whole_rows_of_sheets_holds : PySem.Challenge.rw_provedorshown_k01_whole_rows_of_sheets.Holds := by
  w_on; o_law; k_head; (case hw => w_witness2)
  k_fill
  refine L2.walk_of (l := PySem.Challenge.rw_provedorshown_k01_whole_rows_of_sheets) (n := 63) (k := 18) (x := "script") (CX := fun _ => L2.CX0) (sp := fun w => K01.spLaw _) rfl (by decide) rfl ⟨rfl, by decide, by decide⟩ (fun w h Y => PySem.W.kIn_of Y) ?F (fun _ _ a ns hl _ hS => ⟨a, ns, rfl, hS, hl, fun _ => rfl⟩) (fun _ _ _ _ _ h => h)
  case F =>
    intro w mg fa h KX G hmg
    refine' K01.all_mk KX G hmg ?a1 ?l1 ?c1 ?k1 ?a2 ?l2 ?c2 ?k2 ?a3 ?l3 ?c3 ?k3 ?a4 ?l4 ?c4 ?k4 ?a5 ?l5 ?c5 ?k5 ?a6 ?l6 ?c6 ?k6 ?a7 ?l7 ?c7 ?k7 ?a8 ?l8 ?c8 ?k8 ?a9 ?l9 ?c9 ?k9 ?a10 ?l10 ?c10 ?k10 ?a11 ?l11 ?c11 ?k11 ?a12 ?l12 ?c12 ?k12 ?a13 ?l13 ?c13 ?k13 ?a14 ?l14 ?c14 ?k14 ?a15 ?l15 ?c15 ?k15 ?a16 ?l16 ?c16 ?k16 ?a17 ?l17 ?c17 ?k17 ?a18 ?l18 ?c18 ?k18 ?a19 ?l19 ?c19 ?k19 ?a20 ?l20 ?c20 ?k20 ?a21 ?l21 ?c21 ?k21 ?a22 ?l22 ?c22 ?k22 ?a23 ?l23 ?c23 ?k23 ?a24 ?l24 ?c24 ?k24 ?a25 ?l25 ?c25 ?k25 ?a26 ?l26 ?c26 ?k26 ?a27 ?l27 ?c27 ?k27 ?a28 ?l28 ?c28 ?k28 ?a29 ?l29 ?c29 ?k29 ?a30 ?l30 ?c30 ?k30 ?z_ValueError ?z_abs ?z_all ?z_bool ?z_dict ?z_enumerate ?z_int ?z_isinstance ?z_len ?z_list ?z_min ?z_range ?z_str ?z_tuple ?aMo ?lMo ?aLg ?lLg ?aIt ?lIt ?eIt ?kIt ?sIt ?aLL ?aMR ?a_BadLogic ?a_BadSheet ?a_BadClaim ?a_BadModel ?a_BadPaper ?a_BadTerm ?a_BadEdit ?a_BadValue ?a_BadText ?a_BadSize ?a_TooMany ?a_NotBoxed ?a_NotProved ?a_NotThere ?a_NothingToUndo ?a_NothingToRedo ?a_CourtError ?t_BadLogic ?h_BadLogic ?l_BadLogic ?s_BadLogic ?t_BadSheet ?h_BadSheet ?l_BadSheet ?s_BadSheet ?t_BadClaim ?h_BadClaim ?l_BadClaim ?s_BadClaim ?t_BadModel ?h_BadModel ?l_BadModel ?s_BadModel ?t_BadPaper ?h_BadPaper ?l_BadPaper ?s_BadPaper ?t_BadTerm ?h_BadTerm ?l_BadTerm ?s_BadTerm ?t_BadEdit ?h_BadEdit ?l_BadEdit ?s_BadEdit ?t_BadValue ?h_BadValue ?l_BadValue ?s_BadValue ?t_BadText ?h_BadText ?l_BadText ?s_BadText ?t_BadSize ?h_BadSize ?l_BadSize ?s_BadSize ?t_TooMany ?h_TooMany ?l_TooMany ?s_TooMany ?t_NotBoxed ?h_NotBoxed ?l_NotBoxed ?s_NotBoxed ?t_NotProved ?h_NotProved ?l_NotProved ?s_NotProved ?t_NotThere ?h_NotThere ?l_NotThere ?s_NotThere ?t_NothingToUndo ?h_NothingToUndo ?l_NothingToUndo ?s_NothingToUndo ?t_NothingToRedo ?h_NothingToRedo ?l_NothingToRedo ?s_NothingToRedo ?t_CourtError ?h_CourtError ?l_CourtError ?s_CourtError ?vL ?bL ?gaL ?ggL ?gcL ?moL ?kpL ?vS ?bS ?gaS ?ggS ?gcS ?moS ?kpS ?bC ?spc ?tkc ?xL ?xS ?saS ?noS ?iS ?tI ?l0 ?c0 ?k0
    (case a1 => k_is)
    (case l1 => k_is)
    (case c1 => k_is)
    (case k1 => k_is)
    (case a2 => k_is)
    (case l2 => k_is)
    (case c2 => k_is)
    (case k2 => k_is)
    (case a3 => k_is)
    (case l3 => k_is)
    (case c3 => k_is)
    (case k3 => k_is)
    (case a4 => k_is)
    (case l4 => k_is)
    (case c4 => k_is)
    (case k4 => k_is)
    (case a5 => k_is)
    (case l5 => k_is)
    (case c5 => k_is)
    (case k5 => k_is)
    (case a6 => k_is)
    (case l6 => k_is)
    (case c6 => k_is)
    (case k6 => k_is)
    (case a7 => k_is)
    (case l7 => k_is)
    (case c7 => k_is)
    (case k7 => k_is)
    (case a8 => k_is)
    (case l8 => k_is)
    (case c8 => k_is)
    (case k8 => k_is)
    (case a9 => k_is)
    (case l9 => k_is)
    (case c9 => k_is)
    (case k9 => k_is)
    (case a10 => k_is)
    (case l10 => k_is)
    (case c10 => k_is)
    (case k10 => k_is)
    (case a11 => k_is)
    (case l11 => k_is)
    (case c11 => k_is)
    (case k11 => k_is)
    (case a12 => k_is)
    (case l12 => k_is)
    (case c12 => k_is)
    (case k12 => k_is)
    (case a13 => k_is)
    (case l13 => k_is)
    (case c13 => k_is)
    (case k13 => k_is)
    (case a14 => k_is)
    (case l14 => k_is)
    (case c14 => k_is)
    (case k14 => k_is)
    (case a15 => k_is)
    (case l15 => k_is)
    (case c15 => k_is)
    (case k15 => k_is)
    (case a16 => k_is)
    (case l16 => k_is)
    (case c16 => k_is)
    (case k16 => k_is)
    (case a17 => k_is)
    (case l17 => k_is)
    (case c17 => k_is)
    (case k17 => k_is)
    (case a18 => k_is)
    (case l18 => k_is)
    (case c18 => k_is)
    (case k18 => k_is)
    (case a19 => k_is)
    (case l19 => k_is)
    (case c19 => k_is)
    (case k19 => k_is)
    (case a20 => k_is)
    (case l20 => k_is)
    (case c20 => k_is)
    (case k20 => k_is)
    (case a21 => k_is)
    (case l21 => k_is)
    (case c21 => k_is)
    (case k21 => k_is)
    (case a22 => k_is)
    (case l22 => k_is)
    (case c22 => k_is)
    (case k22 => k_is)
    (case a23 => k_is)
    (case l23 => k_is)
    (case c23 => k_is)
    (case k23 => k_is)
    (case a24 => k_is)
    (case l24 => k_is)
    (case c24 => k_is)
    (case k24 => k_is)
    (case a25 => k_is)
    (case l25 => k_is)
    (case c25 => k_is)
    (case k25 => k_is)
    (case a26 => k_is)
    (case l26 => k_is)
    (case c26 => k_is)
    (case k26 => k_is)
    (case a27 => k_is)
    (case l27 => k_is)
    (case c27 => k_is)
    (case k27 => k_is)
    (case a28 => k_is)
    (case l28 => k_is)
    (case c28 => k_is)
    (case k28 => k_is)
    (case a29 => k_is)
    (case l29 => k_is)
    (case c29 => k_is)
    (case k29 => k_is)
    (case a30 => k_is)
    (case l30 => k_is)
    (case c30 => k_is)
    (case k30 => k_is)
    (case z_ValueError => k_is)
    (case z_abs => k_is)
    (case z_all => k_is)
    (case z_bool => k_is)
    (case z_dict => k_is)
    (case z_enumerate => k_is)
    (case z_int => k_is)
    (case z_isinstance => k_is)
    (case z_len => k_is)
    (case z_list => k_is)
    (case z_min => k_is)
    (case z_range => k_is)
    (case z_str => k_is)
    (case z_tuple => k_is)
    (case aMo => k_is)
    (case lMo => k_is)
    (case aLg => k_is)
    (case lLg => k_is)
    (case aIt => k_is)
    (case lIt => k_is)
    (case eIt => rfl)
    (case kIt => k_keys)
    (case sIt => decide)
    (case aLL => k_is)
    (case aMR => k_is)
    (case a_BadLogic => k_is)
    (case a_BadSheet => k_is)
    (case a_BadClaim => k_is)
    (case a_BadModel => k_is)
    (case a_BadPaper => k_is)
    (case a_BadTerm => k_is)
    (case a_BadEdit => k_is)
    (case a_BadValue => k_is)
    (case a_BadText => k_is)
    (case a_BadSize => k_is)
    (case a_TooMany => k_is)
    (case a_NotBoxed => k_is)
    (case a_NotProved => k_is)
    (case a_NotThere => k_is)
    (case a_NothingToUndo => k_is)
    (case a_NothingToRedo => k_is)
    (case a_CourtError => k_is)
    (case t_BadLogic => k_is)
    (case h_BadLogic => k_is)
    (case l_BadLogic => k_is)
    (case s_BadLogic => k_is)
    (case t_BadSheet => k_is)
    (case h_BadSheet => k_is)
    (case l_BadSheet => k_is)
    (case s_BadSheet => k_is)
    (case t_BadClaim => k_is)
    (case h_BadClaim => k_is)
    (case l_BadClaim => k_is)
    (case s_BadClaim => k_is)
    (case t_BadModel => k_is)
    (case h_BadModel => k_is)
    (case l_BadModel => k_is)
    (case s_BadModel => k_is)
    (case t_BadPaper => k_is)
    (case h_BadPaper => k_is)
    (case l_BadPaper => k_is)
    (case s_BadPaper => k_is)
    (case t_BadTerm => k_is)
    (case h_BadTerm => k_is)
    (case l_BadTerm => k_is)
    (case s_BadTerm => k_is)
    (case t_BadEdit => k_is)
    (case h_BadEdit => k_is)
    (case l_BadEdit => k_is)
    (case s_BadEdit => k_is)
    (case t_BadValue => k_is)
    (case h_BadValue => k_is)
    (case l_BadValue => k_is)
    (case s_BadValue => k_is)
    (case t_BadText => k_is)
    (case h_BadText => k_is)
    (case l_BadText => k_is)
    (case s_BadText => k_is)
    (case t_BadSize => k_is)
    (case h_BadSize => k_is)
    (case l_BadSize => k_is)
    (case s_BadSize => k_is)
    (case t_TooMany => k_is)
    (case h_TooMany => k_is)
    (case l_TooMany => k_is)
    (case s_TooMany => k_is)
    (case t_NotBoxed => k_is)
    (case h_NotBoxed => k_is)
    (case l_NotBoxed => k_is)
    (case s_NotBoxed => k_is)
    (case t_NotProved => k_is)
    (case h_NotProved => k_is)
    (case l_NotProved => k_is)
    (case s_NotProved => k_is)
    (case t_NotThere => k_is)
    (case h_NotThere => k_is)
    (case l_NotThere => k_is)
    (case s_NotThere => k_is)
    (case t_NothingToUndo => k_is)
    (case h_NothingToUndo => k_is)
    (case l_NothingToUndo => k_is)
    (case s_NothingToUndo => k_is)
    (case t_NothingToRedo => k_is)
    (case h_NothingToRedo => k_is)
    (case l_NothingToRedo => k_is)
    (case s_NothingToRedo => k_is)
    (case t_CourtError => k_is)
    (case h_CourtError => k_is)
    (case l_CourtError => k_is)
    (case s_CourtError => k_is)
    (case vL => k_is)
    (case bL => k_is)
    (case gaL => k_is)
    (case ggL => k_is)
    (case gcL => k_is)
    (case moL => k_is)
    (case kpL => k_is)
    (case vS => k_is)
    (case bS => k_is)
    (case gaS => k_is)
    (case ggS => k_is)
    (case gcS => k_is)
    (case moS => k_is)
    (case kpS => k_is)
    (case bC => k_is)
    (case spc => k_is)
    (case tkc => k_is)
    (case xL => k_exc)
    (case xS => exact ⟨_, _, _, _, _, _, _, _, _, _, _, _, _, _, _, by k_is, by decide +kernel⟩)
    (case saS => k_is)
    (case noS => k_is)
    (case iS => k_is)
    (case tI => k_is)
    (case l0 => k_is)
    (case c0 => k_is)
    (case k0 => k_is)

