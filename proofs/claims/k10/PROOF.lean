import PyProof.Rows.All
import Wide.All
import OpenK.AllK
import Wide.FinOn
import HandS.ForMost
import HandS.IsInst
import HandS.Codes
import HandS.More
import HandS.TupMul
import HandS.ExcCtx
import HandS.Hot
import HandS.HotCalls
import HandS.ExcIs
import HandS.ExcField
import HandS.ExcInit
import HandS.SetFor
import HandS.Deep
import HandS.Style
import HandS.SortInts
import HandS.Strs
import HandS.TupSets
import HandS.Sort
import HandS.Text
import HandS.TupLe
import HandS.DictComp
import PySem.Challenge.RW_provedorshown_k10_whole_arcs_told_by_sch
import HandS.Conv
set_option Elab.async false
set_option linter.all false
set_option maxRecDepth 100000
set_option maxHeartbeats 4000000
/-! LLib: what the proofs of several laws share. Heaps that grow while the addresses of M may change; plain data; the spec of a sheet. -/
namespace LL
open PySem PySem.Spec PyProof.Rows L2

theorem iteB {b : Bool} {A B : Prop} (h1 : b = true → A) (h2 : b = false → B) : if b = true then A else B := by
  cases b with
  | true => rw [if_pos rfl]; exact h1 rfl
  | false => rw [if_neg Bool.false_ne_true]; exact h2 rfl
theorem iteY {b : Bool} {A B : Prop} (hb : b = true) (h : A) : if b = true then A else B := by rw [if_pos hb]; exact h
theorem iteN {b : Bool} {A B : Prop} (hb : b = false) (h : B) : if b = true then A else B := by rw [hb, if_neg Bool.false_ne_true]; exact h

/-! ### heaps -/
def Adv (M : List Addr) (H H' : Hp) : Prop := ∀ b o, b ∉ M → H b = some o → H' b = some o
section
variable {M N : List Addr} {H H1 H2 H' : Hp} {p : Addr} {o u : HO}
theorem Adv.refl (M : List Addr) (H : Hp) : Adv M H H := fun _ _ _ h => h
theorem Adv.trans (a : Adv M H H1) (b : Adv M H1 H2) : Adv M H H2 := fun c o hc h => b c o hc (a c o hc h)
theorem Adv.more (a : Adv M H H') (h : ∀ b ∈ M, b ∈ N) : Adv N H H' := fun c o hc e => a c o (fun z => hc (h c z)) e
theorem Adv.new (h : H p = none) : Adv M H (upd H p o) := fun b u _ e => by
  rw [upd_ne (ne_of_none e h)]
  exact e
theorem Adv.set (h : p ∈ M) : Adv M H (upd H p o) := fun b u hb e => by
  rw [upd_ne (fun z => hb (by rw [z]; exact h))]
  exact e
theorem Adv.newT (a : Adv M H H1) (h : H1 p = none) : Adv M H (upd H1 p o) := a.trans (Adv.new h)
theorem Adv.setT (a : Adv M H H1) (h : p ∈ M) : Adv M H (upd H1 p o) := a.trans (Adv.set h)
/-- a change at an address that H does not know -/
theorem Adv.mut (a : Adv M H H1) (h : H p = none) : Adv M H (upd H1 p o) := fun b u hb e => by
  rw [upd_ne (ne_of_none e h)]
  exact a b u hb e
theorem Adv.free (a : Adv M H H') (hp : p ∉ M) (h : H' p = none) : H p = none := by
  cases q : H p with
  | none => rfl
  | some o =>
    rw [a p o hp q] at h
    cases h
theorem Adv.same (a : Adv [] H H') : Same H H' := fun b o e => a b o (by simp) e
theorem Adv.ofSame (a : Same H H') : Adv M H H' := fun b o _ e => a b o e
theorem Adv.get (a : Adv M H H') (e : H p = some o) (hp : p ∉ M) : H' p = some o := a p o hp e
/-- M's last address is new: it need not be told -/
theorem Adv.drop (a : Adv (p :: M) H H') (h : H p = none) : Adv M H H' := fun b u hb e => a b u (fun z => by
  rcases List.mem_cons.mp z with z | z
  · rw [z, h] at e; cases e
  · exact hb z) e
end
theorem ne_lst_ints {l : Addr} {c k : Int} {ns : List Int} : HO.lst [V.ref l, .int c, .int k] ≠ HO.lst (ns.map V.int) := by
  intro e
  have e2 : [V.ref l, .int c, .int k] = ns.map V.int := by injection e
  cases ns with
  | nil => cases e2
  | cons n r =>
    rw [List.map_cons] at e2
    injection e2 with h _
    cases h

/-! ### plain data -/
/-- the tuples of the written part (they never change), and how a key of parts is hashed -/
class KW where
  tp : Addr → List V → Prop
  hs : List Key → Int
/-- a tuple: tracked, or one of the written part -/
def Tp [KW] (M : List Addr) (H : Hp) (a : Addr) (vs : List V) : Prop := (a ∉ M ∧ H a = some (.tup vs)) ∨ KW.tp a vs
section
variable [KW]
mutual
def Is (M : List Addr) (H : Hp) : PyData → V → Prop
  | .none, v => v = .non
  | .bool b, v => v = .bl b
  | .int i, v => v = .int i
  | .str x, v => v = .str x
  | .list ds, v => ∃ a vs, v = .ref a ∧ a ∉ M ∧ H a = some (.lst vs) ∧ IsDs M H ds vs
  | .tuple ds, v => ∃ a vs, v = .ref a ∧ Tp M H a vs ∧ IsDs M H ds vs
  | .dict kvs, v => kvs = [] ∧ ∃ a, v = .ref a ∧ a ∉ M ∧ H a = some (.dK [])
def IsDs (M : List Addr) (H : Hp) : List PyData → List V → Prop
  | [], vs => vs = []
  | d :: ds, vs => ∃ v r, vs = v :: r ∧ Is M H d v ∧ IsDs M H ds r
end
section
variable {M N : List Addr} {H H' : Hp} {p : Addr}
theorem Tp.imp (h : ∀ b o, b ∉ M → H b = some o → b ∉ N ∧ H' b = some o) {a : Addr} {vs : List V} (x : Tp M H a vs) : Tp N H' a vs := by
  rcases x with ⟨na, ha⟩ | x
  · exact .inl ⟨(h a _ na ha).1, (h a _ na ha).2⟩
  · exact .inr x
theorem Tp.adv {a : Addr} {vs : List V} (x : Tp M H a vs) (e : Adv M H H') : Tp M H' a vs := x.imp fun b o hb z => ⟨hb, e b o hb z⟩
theorem Tp.less {a : Addr} {vs : List V} (x : Tp M H a vs) (h : ∀ b ∈ N, b ∈ M) : Tp N H a vs := x.imp fun b o hb z => ⟨fun y => hb (h b y), z⟩
theorem Tp.fresh {a : Addr} {vs : List V} (x : Tp M H a vs) (h : H p = none) : Tp (p :: M) H a vs := x.imp fun b o hb e => ⟨fun z => (List.mem_cons.mp z).elim (ne_of_none e h) hb, e⟩
theorem Tp.of {a : Addr} {vs : List V} (h : H a = some (.tup vs)) (na : a ∉ M) : Tp M H a vs := .inl ⟨na, h⟩
mutual
theorem Is.imp (h : ∀ b o, b ∉ M → H b = some o → b ∉ N ∧ H' b = some o) : ∀ (d : PyData) (v : V), Is M H d v → Is N H' d v
  | .none, v, x => by unfold Is at x ⊢; exact x
  | .bool _, v, x => by unfold Is at x ⊢; exact x
  | .int _, v, x => by unfold Is at x ⊢; exact x
  | .str _, v, x => by unfold Is at x ⊢; exact x
  | .list ds, v, x => by
    unfold Is at x ⊢
    obtain ⟨a, vs, rfl, na, ha, hs⟩ := x
    exact ⟨a, vs, rfl, (h a _ na ha).1, (h a _ na ha).2, IsDs.imp h ds vs hs⟩
  | .tuple ds, v, x => by
    unfold Is at x ⊢
    obtain ⟨a, vs, rfl, ha, hs⟩ := x
    exact ⟨a, vs, rfl, ha.imp h, IsDs.imp h ds vs hs⟩
  | .dict kvs, v, x => by
    unfold Is at x ⊢
    obtain ⟨rfl, a, rfl, na, ha⟩ := x
    exact ⟨rfl, a, rfl, (h a _ na ha).1, (h a _ na ha).2⟩
theorem IsDs.imp (h : ∀ b o, b ∉ M → H b = some o → b ∉ N ∧ H' b = some o) : ∀ (ds : List PyData) (vs : List V), IsDs M H ds vs → IsDs N H' ds vs
  | [], vs, x => by unfold IsDs at x ⊢; exact x
  | d :: ds, vs, x => by
    unfold IsDs at x ⊢
    obtain ⟨v, r, rfl, h1, h2⟩ := x
    exact ⟨v, r, rfl, Is.imp h d v h1, IsDs.imp h ds r h2⟩
end
theorem Is.adv {d : PyData} {v : V} (x : Is M H d v) (a : Adv M H H') : Is M H' d v := Is.imp (fun b o hb e => ⟨hb, a b o hb e⟩) d v x
theorem IsDs.adv {ds : List PyData} {vs : List V} (x : IsDs M H ds vs) (a : Adv M H H') : IsDs M H' ds vs := IsDs.imp (fun b o hb e => ⟨hb, a b o hb e⟩) ds vs x
theorem Is.less {d : PyData} {v : V} (x : Is M H d v) (h : ∀ b ∈ N, b ∈ M) : Is N H d v := Is.imp (fun b o hb e => ⟨fun z => hb (h b z), e⟩) d v x
theorem IsDs.less {ds : List PyData} {vs : List V} (x : IsDs M H ds vs) (h : ∀ b ∈ N, b ∈ M) : IsDs N H ds vs := IsDs.imp (fun b o hb e => ⟨fun z => hb (h b z), e⟩) ds vs x
theorem Is.fresh {d : PyData} {v : V} (x : Is M H d v) (h : H p = none) : Is (p :: M) H d v := Is.imp (fun b o hb e => ⟨fun z => (List.mem_cons.mp z).elim (ne_of_none e h) hb, e⟩) d v x
theorem IsDs.fresh {ds : List PyData} {vs : List V} (x : IsDs M H ds vs) (h : H p = none) : IsDs (p :: M) H ds vs := IsDs.imp (fun b o hb e => ⟨fun z => (List.mem_cons.mp z).elim (ne_of_none e h) hb, e⟩) ds vs x
theorem IsDs.len : ∀ {ds : List PyData} {vs : List V}, IsDs M H ds vs → vs.length = ds.length
  | [], vs, x => by unfold IsDs at x; rw [x]; rfl
  | d :: ds, vs, x => by
    unfold IsDs at x
    obtain ⟨v, r, rfl, _, h2⟩ := x
    rw [List.length_cons, List.length_cons, h2.len]
theorem IsDs.get : ∀ {ds : List PyData} {vs : List V} {i : Nat} {d : PyData}, IsDs M H ds vs → ds[i]? = some d → ∃ v, vs[i]? = some v ∧ Is M H d v
  | [], vs, i, d, x, e => by simp at e
  | c :: ds, vs, 0, d, x, e => by
    unfold IsDs at x
    obtain ⟨v, r, rfl, h1, h2⟩ := x
    have e' : c = d := Option.some.inj e
    subst e'
    exact ⟨v, rfl, h1⟩
  | c :: ds, vs, i + 1, d, x, e => by
    unfold IsDs at x
    obtain ⟨v, r, rfl, h1, h2⟩ := x
    exact h2.get (i := i) (by simpa using e)
theorem IsDs.getV : ∀ {ds : List PyData} {vs : List V} {i : Nat} {v : V}, IsDs M H ds vs → vs[i]? = some v → ∃ d, ds[i]? = some d ∧ Is M H d v := fun {ds vs i v} x e => by
  have hi : i < ds.length := by rw [← x.len]; exact (List.getElem?_eq_some_iff.mp e).1
  obtain ⟨w, e2, h⟩ := x.get (List.getElem?_eq_getElem hi)
  rw [e] at e2
  cases e2
  exact ⟨_, List.getElem?_eq_getElem hi, h⟩
theorem IsDs.app : ∀ {ds es : List PyData} {vs ws : List V}, IsDs M H ds vs → IsDs M H es ws → IsDs M H (ds ++ es) (vs ++ ws)
  | [], es, vs, ws, x, y => by unfold IsDs at x; subst x; exact y
  | d :: ds, es, vs, ws, x, y => by
    unfold IsDs at x
    obtain ⟨v, r, rfl, h1, h2⟩ := x
    show IsDs M H (d :: (ds ++ es)) (v :: (r ++ ws))
    unfold IsDs
    exact ⟨v, r ++ ws, rfl, h1, h2.app y⟩
theorem IsDs.one {d : PyData} {v : V} (x : Is M H d v) : IsDs M H [d] [v] := by
  unfold IsDs
  exact ⟨v, [], rfl, x, by unfold IsDs; rfl⟩
theorem IsDs.nil : IsDs M H [] [] := by unfold IsDs; rfl
theorem IsDs.cons {d : PyData} {v : V} {ds : List PyData} {vs : List V} (x : Is M H d v) (y : IsDs M H ds vs) : IsDs M H (d :: ds) (v :: vs) := by
  unfold IsDs
  exact ⟨v, vs, rfl, x, y⟩
theorem IsDs.set : ∀ {ds : List PyData} {vs : List V} {i : Nat} {d : PyData} {v : V}, IsDs M H ds vs → Is M H d v → IsDs M H (ds.set i d) (vs.set i v)
  | [], vs, i, d, v, x, y => by unfold IsDs at x; subst x; exact .nil
  | c :: ds, vs, 0, d, v, x, y => by
    unfold IsDs at x
    obtain ⟨w, r, rfl, h1, h2⟩ := x
    exact .cons y h2
  | c :: ds, vs, i + 1, d, v, x, y => by
    unfold IsDs at x
    obtain ⟨w, r, rfl, h1, h2⟩ := x
    exact .cons h1 (h2.set y)
theorem IsDs.drop : ∀ {ds : List PyData} {vs : List V} (i : Nat), IsDs M H ds vs → IsDs M H (ds.drop i) (vs.drop i)
  | ds, vs, 0, x => x
  | [], vs, i + 1, x => by unfold IsDs at x; subst x; exact .nil
  | c :: ds, vs, i + 1, x => by
    unfold IsDs at x
    obtain ⟨w, r, rfl, h1, h2⟩ := x
    exact h2.drop i
theorem Is.int {i : Int} : Is M H (.int i) (.int i) := by unfold Is; rfl
theorem Is.str {x : Str} : Is M H (.str x) (.str x) := by unfold Is; rfl
theorem Is.bl {b : Bool} : Is M H (.bool b) (.bl b) := by unfold Is; rfl
theorem Is.non : Is M H .none .non := by unfold Is; rfl
theorem Is.lst {a : Addr} {ds : List PyData} {vs : List V} (h : H a = some (.lst vs)) (hn : a ∉ M) (x : IsDs M H ds vs) : Is M H (.list ds) (.ref a) := by
  unfold Is
  exact ⟨a, vs, rfl, hn, h, x⟩
theorem Is.tup {a : Addr} {ds : List PyData} {vs : List V} (h : H a = some (.tup vs)) (hn : a ∉ M) (x : IsDs M H ds vs) : Is M H (.tuple ds) (.ref a) := by
  unfold Is
  exact ⟨a, vs, rfl, .inl ⟨hn, h⟩, x⟩
theorem Is.tp {a : Addr} {ds : List PyData} {vs : List V} (h : Tp M H a vs) (x : IsDs M H ds vs) : Is M H (.tuple ds) (.ref a) := by
  unfold Is
  exact ⟨a, vs, rfl, h, x⟩
theorem Is.dic {a : Addr} (h : H a = some (.dK [])) (hn : a ∉ M) : Is M H (.dict []) (.ref a) := by
  unfold Is
  exact ⟨rfl, a, rfl, hn, h⟩
theorem Is.intE {i : Int} {v : V} (x : Is M H (.int i) v) : v = .int i := by unfold Is at x; exact x
theorem Is.strE {i : Str} {v : V} (x : Is M H (.str i) v) : v = .str i := by unfold Is at x; exact x
theorem Is.blE {i : Bool} {v : V} (x : Is M H (.bool i) v) : v = .bl i := by unfold Is at x; exact x
theorem Is.nonE {v : V} (x : Is M H .none v) : v = .non := by unfold Is at x; exact x
theorem Is.lstE {ds : List PyData} {v : V} (x : Is M H (.list ds) v) : ∃ a vs, v = .ref a ∧ a ∉ M ∧ H a = some (.lst vs) ∧ IsDs M H ds vs := by unfold Is at x; exact x
theorem Is.tupE {ds : List PyData} {v : V} (x : Is M H (.tuple ds) v) : ∃ a vs, v = .ref a ∧ Tp M H a vs ∧ IsDs M H ds vs := by unfold Is at x; exact x
theorem Is.dicE {kvs : List (PyData × PyData)} {v : V} (x : Is M H (.dict kvs) v) : kvs = [] ∧ ∃ a, v = .ref a ∧ a ∉ M ∧ H a = some (.dK []) := by unfold Is at x; exact x
end
end
mutual
/-- how many values a datum has, itself among them -/
def sz : PyData → Nat
  | .list ds => 1 + szL ds
  | .tuple ds => 1 + szL ds
  | _ => 1
def szL : List PyData → Nat
  | [] => 0
  | d :: ds => sz d + szL ds
end
mutual
def dep : PyData → Nat
  | .list ds => 1 + depL ds
  | .tuple ds => 1 + depL ds
  | _ => 0
def depL : List PyData → Nat
  | [] => 0
  | d :: ds => max (dep d) (depL ds)
end
theorem sz_pos : ∀ d : PyData, 1 ≤ sz d
  | .none => by unfold sz; exact Nat.le_refl _
  | .bool _ => by unfold sz; exact Nat.le_refl _
  | .int _ => by unfold sz; exact Nat.le_refl _
  | .str _ => by unfold sz; exact Nat.le_refl _
  | .list ds => by unfold sz; omega
  | .tuple ds => by unfold sz; omega
  | .dict _ => by unfold sz; exact Nat.le_refl _
theorem szL_nil : szL [] = 0 := by rw [szL]
theorem szL_cons (d : PyData) (ds : List PyData) : szL (d :: ds) = sz d + szL ds := by rw [szL]
theorem szL_app : ∀ ds es : List PyData, szL (ds ++ es) = szL ds + szL es
  | [], es => by rw [List.nil_append, szL_nil, Nat.zero_add]
  | d :: ds, es => by rw [List.cons_append, szL_cons, szL_cons, szL_app ds es, Nat.add_assoc]
theorem dep_mem : ∀ {ds : List PyData} {d : PyData}, d ∈ ds → dep d ≤ depL ds
  | c :: ds, d, h => by
    unfold depL
    rcases List.mem_cons.mp h with e | h
    · rw [e]; exact Nat.le_max_left _ _
    · exact Nat.le_trans (dep_mem h) (Nat.le_max_right _ _)

/-! ### the stream of draws -/
/-- a stream stands at s: the script's copy (none of M), the cell's rest, the next cell's number -/
def StrAt (M : List Addr) (H : Hp) (s : Addr) : Prop := ∃ (l : Addr) (ns : List Int) (c k : Int), H s = some (.lst [V.ref l, .int c, .int k]) ∧ H l = some (.lst (ns.map V.int)) ∧ 0 ≤ c ∧ 0 ≤ k ∧ l ∉ M
section
variable {M N : List Addr} {H H' : Hp} {s p : Addr}
theorem StrAt.adv (x : StrAt M H s) (a : Adv N H H') (hs : s ∉ N) (hn : ∀ b ∈ N, b ∈ M) : StrAt M H' s := by
  obtain ⟨l, ns, c, k, h1, h2, h3, h4, h5⟩ := x
  exact ⟨l, ns, c, k, a _ _ hs h1, a _ _ (fun z => h5 (hn l z)) h2, h3, h4, h5⟩
theorem StrAt.same (x : StrAt M H s) (a : Adv [] H H') : StrAt M H' s := x.adv a (by simp) (fun b z => by simp at z)
theorem StrAt.fresh (x : StrAt M H s) (h : H p = none) : StrAt (p :: M) H s := by
  obtain ⟨l, ns, c, k, h1, h2, h3, h4, h5⟩ := x
  exact ⟨l, ns, c, k, h1, h2, h3, h4, fun z => (List.mem_cons.mp z).elim (ne_of_none h2 h) h5⟩
theorem StrAt.less (x : StrAt M H s) (h : ∀ b ∈ N, b ∈ M) : StrAt N H s := by
  obtain ⟨l, ns, c, k, h1, h2, h3, h4, h5⟩ := x
  exact ⟨l, ns, c, k, h1, h2, h3, h4, fun z => h5 (h l z)⟩
theorem StrAt.here (x : StrAt M H s) : H s ≠ none := by
  obtain ⟨l, ns, c, k, h1, _⟩ := x
  rw [h1]
  simp
end

/-! ### defs -/
/-- a def of the text where it stands behind the top -/
structure Df (K : PySem.W.Frag) (mg : Str → Option Value) (x : Str) (st : Stmt) (ps : List Str) where
  f : Addr
  fd : FuncData
  F : Fun K x x st f fd
  m : mg x = some (.ref f)
  b : Binds K fd ps []
theorem ix_or {X : Cx} {r r' : R2} (h : IxR X r) (h' : IxR X r') : IxR X (fun x y H Q => r x y H Q ∨ r' x y H Q) := by
  intro value slice pins s σ H x y v u Q I rx ry q e
  rcases q with q | q
  · exact h value slice pins s σ H x y v u Q I rx ry q e
  · exact h' value slice pins s σ H x y v u Q I rx ry q e
theorem call_or {X : Cx} {f : Value} {r r' : List V → Hp → VK → Prop} (h : CallR X f r) (h' : CallR X f r') : CallR X f (fun xs H Q => r xs H Q ∨ r' xs H Q) := by
  intro pins s σ H xs us Q I rx q
  rcases q with q | q
  · exact h pins s σ H xs us Q I rx q
  · exact h' pins s σ H xs us Q I rx q
theorem ix_any {X : Cx} (K : PySem.W.Frag) (h : X.K = K) : IxR X (fun x y H Q => rIxL K x y H Q ∨ rIxT K x y H Q) := by
  subst h
  exact ix_or ix_list ix_tup
end LL

set_option Elab.async false
set_option linter.all false
set_option maxRecDepth 100000
set_option maxHeartbeats 4000000
/-! LSpec: kinds of data; what a node and a sheet are -/
namespace LL
open PySem PySem.Spec PyProof.Rows L2
def tyN : PyData → String
  | .none => "NoneType"
  | .bool _ => "bool"
  | .int _ => "int"
  | .str _ => "str"
  | .list _ => "list"
  | .tuple _ => "tuple"
  | .dict _ => "dict"
/-- what the written part says of the tuples and of the hash -/
structure KWOk [KW] (K : PySem.W.Frag) (w : World) : Prop where
  tp : ∀ a vs, KW.tp a vs → ∃ (o : Obj) (its : Array Value) (n : Nat), K.lookup a = some o ∧ o.cls = .type "tuple" ∧ o.data = .seq its n ∧ its.size ≤ sizeLine ∧ Vals vs its.toList
  hs : ∀ (P : Program) (ks : List Key), KW.hs ks = (tupleKind (mixKind P w)).hash ks
section
variable [KW]
theorem Tp.sq {K : PySem.W.Frag} {w : World} (W : KWOk K w) {M : List Addr} {H : Hp} {a : Addr} {vs : List V} (x : Tp M H a vs) : SqT K H a vs := by
  rcases x with ⟨_, h⟩ | h
  · exact SqT.of h
  · exact .inr (W.tp a vs h)
theorem Is.ty {K : PySem.W.Frag} {w : World} (W : KWOk K w) {M : List Addr} {H : Hp} : ∀ {d : PyData} {v : V}, Is M H d v → TyX K H v (.type (tyN d))
  | .none, v, x => by rw [x.nonE]; exact .base .non
  | .bool _, v, x => by rw [x.blE]; exact .base (.bl _)
  | .int _, v, x => by rw [x.intE]; exact .base (.int _)
  | .str _, v, x => by rw [x.strE]; exact .base (.str _)
  | .list _, v, x => by
    obtain ⟨a, vs, rfl, _, h, _⟩ := x.lstE
    exact .base (.lst h)
  | .tuple _, v, x => by
    obtain ⟨a, vs, rfl, h, _⟩ := x.tupE
    rcases h with ⟨_, h⟩ | h
    · exact .base (.tup h)
    · obtain ⟨o, its, n, h1, h2, _⟩ := W.tp a vs h
      exact .kTuple h1 h2
  | .dict _, v, x => by
    obtain ⟨_, a, rfl, _, h⟩ := x.dicE
    exact .base (.dK h)
end
/-- isinstance(v, one of the six built-in kinds) -/
def kitD (d : PyData) (n : String) : Bool := match d with
  | .bool _ => n == "bool" || n == "int"
  | d => n == tyN d
theorem kit_one {K : PySem.W.Frag} (d : PyData) (n : String) (h : n = "int" ∨ n = "bool" ∨ n = "str" ∨ n = "list" ∨ n = "tuple" ∨ n = "dict") : PySem.W.kitOne K (.type (tyN d)) (.type n) = some (kitD d n) := by
  refine kit_ty ?_
  have fin : ∀ t ∈ ["NoneType", "bool", "int", "str", "list", "tuple", "dict"], ∀ n ∈ ["int", "bool", "str", "list", "tuple", "dict"], kitB t n = some (if t = "bool" then (n == "bool" || n == "int") else n == t) := by decide +kernel
  have hn : n ∈ ["int", "bool", "str", "list", "tuple", "dict"] := by simpa using h
  cases d with
  | bool b => exact fin "bool" (by simp) n hn
  | none => exact fin "NoneType" (by simp) n hn
  | int i => exact fin "int" (by simp) n hn
  | str i => exact fin "str" (by simp) n hn
  | list i => exact fin "list" (by simp) n hn
  | tuple i => exact fin "tuple" (by simp) n hn
  | dict i => exact fin "dict" (by simp) n hn
theorem k_int {K : PySem.W.Frag} (d : PyData) : PySem.W.kitOne K (.type (tyN d)) (.type "int") = some (kitD d "int") := kit_one d "int" (by simp)
theorem k_bool {K : PySem.W.Frag} (d : PyData) : PySem.W.kitOne K (.type (tyN d)) (.type "bool") = some (kitD d "bool") := kit_one d "bool" (by simp)
theorem k_str {K : PySem.W.Frag} (d : PyData) : PySem.W.kitOne K (.type (tyN d)) (.type "str") = some (kitD d "str") := kit_one d "str" (by simp)
theorem k_list {K : PySem.W.Frag} (d : PyData) : PySem.W.kitOne K (.type (tyN d)) (.type "list") = some (kitD d "list") := kit_one d "list" (by simp)
theorem k_tuple {K : PySem.W.Frag} (d : PyData) : PySem.W.kitOne K (.type (tyN d)) (.type "tuple") = some (kitD d "tuple") := kit_one d "tuple" (by simp)
theorem k_dict {K : PySem.W.Frag} (d : PyData) : PySem.W.kitOne K (.type (tyN d)) (.type "dict") = some (kitD d "dict") := kit_one d "dict" (by simp)
/-! ### nodes -/
def isNum (lo hi : Int) : PyData → Bool
  | .int i => decide (lo ≤ i) && decide (i ≤ hi)
  | _ => false
/-- how many items a node of this word has -/
def nItems (w : Str) : Option Nat :=
  if w = "letter" then some 2 else if w = "no" then some 1 else if w = "and" then some 3 else if w = "or" then some 3 else if w = "if" then some 3 else if w = "box" then some 2 else none
def nodeB (boxed : Bool) (row : Int) : PyData → Bool
  | .tuple (.str w :: ps) => if nItems w = some (ps.length + 1) then (if w = "letter" then ps.all (isNum 0 7) else if w = "box" && !boxed then false else ps.all (isNum 0 (row - 1))) else false
  | _ => false
/-- a node as a key -/
def keyD : PyData → Key
  | .int i => .inl i
  | .str x => .inr x
  | _ => .inl 0
def keysD : PyData → List Key
  | .tuple ds => ds.map keyD
  | _ => []
/-- the first wrong row behind row at, whose earlier nodes are seen -/
def memK (k : List Key) (l : List (List Key)) : Bool := l.any fun x => decide (x = k)
def wrongF (most : Int) (boxed : Bool) : Int → List (List Key) → List PyData → Option Int
  | _, _, [] => none
  | at_, seen, d :: ds => if at_ < most then (if nodeB boxed at_ d then (if memK (keysD d) seen = true then some at_ else wrongF most boxed (at_ + 1) (seen ++ [keysD d]) ds) else some at_) else some at_
def wrongD (most : Int) (boxed : Bool) : PyData → Option Int
  | .list ds => wrongF most boxed 0 [] ds
  | _ => some (-1)
section
variable [KW]
theorem node_keys {boxed : Bool} {row : Int} {d : PyData} {v : V} {M : List Addr} {H : Hp} (x : Is M H d v) (h : nodeB boxed row d = true) : ∃ a, v = .ref a ∧ Tp M H a ((keysD d).map kV) := by
  unfold nodeB at h
  split at h
  · rename_i w ps
    obtain ⟨a, vs, rfl, ha, hs⟩ := x.tupE
    refine ⟨a, rfl, ?_⟩
    have hall : ∀ p ∈ ps, ∃ i, p = .int i := by
      have num : ∀ lo hi, ps.all (isNum lo hi) = true → ∀ p ∈ ps, ∃ i, p = PyData.int i := fun lo hi hh p hp => by
        have q := List.all_eq_true.mp hh p hp
        cases p with
        | int i => exact ⟨i, rfl⟩
        | _ => cases q
      split at h
      · split at h
        · exact num _ _ h
        · split at h
          · cases h
          · exact num _ _ h
      · cases h
    have key : ∀ (ds : List PyData) (vs : List V), (∀ p ∈ ds, ∃ i, p = PyData.int i) → IsDs M H ds vs → vs = (ds.map keyD).map kV := by
      intro ds
      induction ds with
      | nil => intro vs _ y; unfold IsDs at y; exact y
      | cons c ds ih =>
        intro vs hh y
        unfold IsDs at y
        obtain ⟨u, r, rfl, h1, h2⟩ := y
        obtain ⟨i, rfl⟩ := hh c (by simp)
        rw [h1.intE, ih r (fun p hp => hh p (by simp [hp])) h2]
        rfl
    unfold IsDs at hs
    obtain ⟨u, r, rfl, h1, h2⟩ := hs
    rw [h1.strE, key ps r hall h2] at ha
    exact ha
  · cases h
end
end LL

set_option Elab.async false
set_option linter.all false
set_option maxRecDepth 100000
set_option maxHeartbeats 4000000
/-! LMore: a written dict's get; comprehensions that map -/
namespace LL
open PySem PySem.Spec PyProof.Rows L2
variable [KW]
theorem SqT.adv {K : PySem.W.Frag} {H H' : Hp} {a : Addr} {xs : List V} (e : Adv [] H H') (h : SqT K H a xs) : SqT K H' a xs := by
  rcases h with (h | ⟨o, h⟩) | h
  · exact .inl (.inl (e.same _ _ h))
  · exact .inl (.inr ⟨o, e.same _ _ h⟩)
  · exact .inr h
theorem SqL.adv {K : PySem.W.Frag} {H H' : Hp} {a : Addr} {xs : List V} (e : Adv [] H H') (h : SqL K H a xs) : SqL K H' a xs := by
  rcases h with (h | ⟨o, h⟩) | h
  · exact .inl (.inl (e.same _ _ h))
  · exact .inl (.inr ⟨o, e.same _ _ h⟩)
  · exact .inr h
/-- d.get(k), d a dict of the text's top whose keys are texts -/
def tKGet (K : PySem.W.Frag) (w : World) (td ty : TE) : TE := fun σ H Q => td σ H fun x H1 => ∃ (d : Addr) (es : Array DictEntry) (n : Nat), x = .ref d ∧ KDict K w d es n ∧
  ty σ H1 fun y H2 => ∃ (z : Str) (r : Option Value) (v : V), y = .str z ∧ PySem.W.nsIn K d z = some r ∧ RelV v (r.getD .none) ∧ Q v H2
theorem pe_kget {X : Cx} {o e : Expr} {apos cpos : Pos} {td ty : TE} (ho : PE X o td) (he : PE X e ty) (m : M1 X o "get" apos e cpos) : PE X (.Call (.Attribute o "get" apos) [e] [] cpos) (tKGet X.K X.w td ty) := by
  refine ⟨fun pins s σ H Q I h => ?_⟩
  refine wpAny_Call_method m.base m.few m.line PySem.F.plainAttrs_dict PySem.F.slot_dict_get PySem.F.type_dict_get (thn (ho.run pins s σ H _ I h) fun u s1 q => ?_)
  obtain ⟨x, H1, I1, rx, d, es, n, ex, KD, q1⟩ := q
  subst ex
  cases (show u = Value.ref d from rx)
  refine ⟨kd_type KD I1, fun b eb => ?_, ?_⟩
  · cases eb
    exact ⟨_, I1.kIn _ _ KD.at_, rfl⟩
  · rw [m.trees]
    refine Calls.callWith_builtin rfl (Calls.evalArgs_plain (Calls.spliced_cons (thn (he.run pins s1 σ H1 _ I1 q1) fun iv s2 q2 => Calls.spliced_nil ?_)))
    obtain ⟨y, H2, I2, ry, z, r, v, ey, en, rv, q3⟩ := q2
    subst ey
    obtain ⟨t, rfl⟩ := ry
    have mo := PySem.W.mapOf_K (prog := X.prog) (w := X.w) I2.kIn KD.at_ KD.lit
    refine call_meetsIn PySem.F.slot_dict_get mo.typeIs PySem.F.entry_dict_get (PySem.F.args_dict_get_2 _ _) (meets_dict_get (strKind X.prog X.w) d (PySem.strKind_is X.prog X.w z t) KD.low) ⟨_, mo, ⟨v, H2, I2.tok _, ?_, q3⟩⟩
    rw [PySem.W.find_K KD.at_ en]
    exact rv
section
variable {K : PySem.W.Frag} {a D : Addr} {xs : List V} {g : TG} {te : TE} {vs : List Nat} {σ : L2.St} {H1 : Hp} {Qd : Hp → Prop}
theorem range_map_succ (ys : Nat → V) (i : Nat) : (List.range (i + 1)).map ys = (List.range i).map ys ++ [ys i] := by rw [List.range_succ, List.map_append]; rfl
/-- [e for x in t], t a tuple: e gives ys i at its i-th item -/
theorem lc_mapT (ys : Nat → V) (hD : H1 D = none) (src : SqT K H1 a xs) (hz : xs.length ≤ 1000000)
    (hs : ∀ (i : Nat) (x : V) (H : Hp) (acc : List V) (R : V → Hp → Prop), xs[i]? = some x → Adv [] H1 H → H D = some (.lst acc) → (∀ H4, H4 D = some (.lst acc) → Adv [] H1 H4 → R (ys i) H4) → g x (wipe σ vs) H fun σ2 H2 => wipe σ2 vs = wipe σ vs ∧ te σ2 H2 R)
    (hd : ∀ H, Adv [] H1 H → H D = some (.lst ((List.range xs.length).map ys)) → Qd H) :
    ∃ W : Nat → Nat → Hp → Prop, (∃ m, W 0 m (upd H1 D (.lst []))) ∧ ∀ i m H, W i m H →
      ((Itt K a).stop i H ∧ Qd H) ∨ ((Itt K a).go i H ∧ ∃ Nx : Hp → Prop, (∀ H', Nx H' → ∃ m', m' < m ∧ W (i + 1) m' H') ∧ ∀ x H', (Itt K a).yld i H x H' → g x (wipe σ vs) H' fun σ2 H2 => wipe σ2 vs = wipe σ vs ∧ tYes σ2 H2 fun b H3 =>
        if b = true then te σ2 H3 fun y H4 => ∃ acc, H4 D = some (.lst acc) ∧ acc.length < sizeLine ∧ Nx (upd H4 D (.lst (acc ++ [y]))) else Nx H3) := by
  refine lc_tup (K := K) (a := a) (xs := xs) (tt := tYes) (fun i H => Adv [] H1 H ∧ H D = some (.lst ((List.range i).map ys))) ⟨Adv.new hD, upd_same⟩ (fun i H _ p => SqT.adv p.1 src) (fun i x H hx p => ?_) (fun H p => hd H p.1 p.2)
  have hi : i < xs.length := (List.getElem?_eq_some_iff.mp hx).1
  refine hs i x H _ (fun y H4 => ∃ acc, H4 D = some (.lst acc) ∧ acc.length < sizeLine ∧ Adv [] H1 (upd H4 D (.lst (acc ++ [y]))) ∧ (upd H4 D (.lst (acc ++ [y]))) D = some (.lst ((List.range (i + 1)).map ys))) hx p.1 p.2 (fun H4 e4 a4 => ⟨_, e4, ?_, Adv.mut a4 hD, ?_⟩)
  · rw [List.length_map, List.length_range, sizeLine_eq]
    omega
  · rw [upd_same, range_map_succ]
theorem lc_mapL (ys : Nat → V) (hD : H1 D = none) (src : SqL K H1 a xs) (hz : xs.length ≤ 1000000)
    (hs : ∀ (i : Nat) (x : V) (H : Hp) (acc : List V) (R : V → Hp → Prop), xs[i]? = some x → Adv [] H1 H → H D = some (.lst acc) → (∀ H4, H4 D = some (.lst acc) → Adv [] H1 H4 → R (ys i) H4) → g x (wipe σ vs) H fun σ2 H2 => wipe σ2 vs = wipe σ vs ∧ te σ2 H2 R)
    (hd : ∀ H, Adv [] H1 H → H D = some (.lst ((List.range xs.length).map ys)) → Qd H) :
    ∃ W : Nat → Nat → Hp → Prop, (∃ m, W 0 m (upd H1 D (.lst []))) ∧ ∀ i m H, W i m H →
      ((Itl K a).stop i H ∧ Qd H) ∨ ((Itl K a).go i H ∧ ∃ Nx : Hp → Prop, (∀ H', Nx H' → ∃ m', m' < m ∧ W (i + 1) m' H') ∧ ∀ x H', (Itl K a).yld i H x H' → g x (wipe σ vs) H' fun σ2 H2 => wipe σ2 vs = wipe σ vs ∧ tYes σ2 H2 fun b H3 =>
        if b = true then te σ2 H3 fun y H4 => ∃ acc, H4 D = some (.lst acc) ∧ acc.length < sizeLine ∧ Nx (upd H4 D (.lst (acc ++ [y]))) else Nx H3) := by
  refine lc_list (K := K) (a := a) (xs := xs) (tt := tYes) (fun i H => Adv [] H1 H ∧ H D = some (.lst ((List.range i).map ys))) ⟨Adv.new hD, upd_same⟩ (fun i H _ p => SqL.adv p.1 src) (fun i x H hx p => ?_) (fun H p => hd H p.1 p.2)
  have hi : i < xs.length := (List.getElem?_eq_some_iff.mp hx).1
  refine hs i x H _ (fun y H4 => ∃ acc, H4 D = some (.lst acc) ∧ acc.length < sizeLine ∧ Adv [] H1 (upd H4 D (.lst (acc ++ [y]))) ∧ (upd H4 D (.lst (acc ++ [y]))) D = some (.lst ((List.range (i + 1)).map ys))) hx p.1 p.2 (fun H4 e4 a4 => ⟨_, e4, ?_, Adv.mut a4 hD, ?_⟩)
  · rw [List.length_map, List.length_range, sizeLine_eq]
    omega
  · rw [upd_same, range_map_succ]
theorem lc_mapR {n : Nat} (ys : Nat → V) (hD : H1 D = none) (hz : n ≤ 1000000)
    (hs : ∀ (i : Nat) (H : Hp) (acc : List V) (R : V → Hp → Prop), i < n → Adv [] H1 H → H D = some (.lst acc) → (∀ H4, H4 D = some (.lst acc) → Adv [] H1 H4 → R (ys i) H4) → g (.int (0 + (i : Nat))) (wipe σ vs) H fun σ2 H2 => wipe σ2 vs = wipe σ vs ∧ te σ2 H2 R)
    (hd : ∀ H, Adv [] H1 H → H D = some (.lst ((List.range n).map ys)) → Qd H) :
    ∃ W : Nat → Nat → Hp → Prop, (∃ m, W 0 m (upd H1 D (.lst []))) ∧ ∀ i m H, W i m H →
      ((Itr 0 n).stop i H ∧ Qd H) ∨ ((Itr 0 n).go i H ∧ ∃ Nx : Hp → Prop, (∀ H', Nx H' → ∃ m', m' < m ∧ W (i + 1) m' H') ∧ ∀ x H', (Itr 0 n).yld i H x H' → g x (wipe σ vs) H' fun σ2 H2 => wipe σ2 vs = wipe σ vs ∧ tYes σ2 H2 fun b H3 =>
        if b = true then te σ2 H3 fun y H4 => ∃ acc, H4 D = some (.lst acc) ∧ acc.length < sizeLine ∧ Nx (upd H4 D (.lst (acc ++ [y]))) else Nx H3) := by
  refine lc_range (lo := 0) (n := n) (tt := tYes) (fun i H => Adv [] H1 H ∧ H D = some (.lst ((List.range i).map ys))) ⟨Adv.new hD, upd_same⟩ (fun i H hi p => ?_) (fun H p => hd H p.1 p.2)
  refine hs i H _ (fun y H4 => ∃ acc, H4 D = some (.lst acc) ∧ acc.length < sizeLine ∧ Adv [] H1 (upd H4 D (.lst (acc ++ [y]))) ∧ (upd H4 D (.lst (acc ++ [y]))) D = some (.lst ((List.range (i + 1)).map ys))) hi p.1 p.2 (fun H4 e4 a4 => ⟨_, e4, ?_, Adv.mut a4 hD, ?_⟩)
  · rw [List.length_map, List.length_range, sizeLine_eq]
    omega
  · rw [upd_same, range_map_succ]
theorem lc_dataR {M : List Addr} {n : Nat} (ds : List PyData) (hn : n = ds.length) (hD : H1 D = none) (hz : n ≤ 1000000)
    (hs : ∀ (i : Nat) (d : PyData) (H : Hp) (acc : List V) (R : V → Hp → Prop), ds[i]? = some d → Adv [] H1 H → H D = some (.lst acc) → (∀ y H4, H4 D = some (.lst acc) → Adv [D] H H4 → Is (D :: M) H4 d y → R y H4) → g (.int (0 + (i : Nat))) (wipe σ vs) H fun σ2 H2 => wipe σ2 vs = wipe σ vs ∧ te σ2 H2 R)
    (hd : ∀ H acc, Adv [] H1 H → H D = some (.lst acc) → IsDs (D :: M) H ds acc → Qd H) :
    ∃ W : Nat → Nat → Hp → Prop, (∃ m, W 0 m (upd H1 D (.lst []))) ∧ ∀ i m H, W i m H →
      ((Itr 0 n).stop i H ∧ Qd H) ∨ ((Itr 0 n).go i H ∧ ∃ Nx : Hp → Prop, (∀ H', Nx H' → ∃ m', m' < m ∧ W (i + 1) m' H') ∧ ∀ x H', (Itr 0 n).yld i H x H' → g x (wipe σ vs) H' fun σ2 H2 => wipe σ2 vs = wipe σ vs ∧ tYes σ2 H2 fun b H3 =>
        if b = true then te σ2 H3 fun y H4 => ∃ acc, H4 D = some (.lst acc) ∧ acc.length < sizeLine ∧ Nx (upd H4 D (.lst (acc ++ [y]))) else Nx H3) := by
  refine lc_range (lo := 0) (n := n) (tt := tYes) (fun i H => Adv [] H1 H ∧ ∃ acc, H D = some (.lst acc) ∧ IsDs (D :: M) H (ds.take i) acc) ⟨Adv.new hD, [], upd_same, .nil⟩ (fun i H hx p => ?_) (fun H p => ?_)
  · have hi : i < ds.length := by
      rw [← hn]
      exact hx
    obtain ⟨a1, acc, hacc, hds⟩ := p
    have hlen := hds.len
    rw [List.length_take, Nat.min_eq_left (Nat.le_of_lt hi)] at hlen
    refine hs i (ds[i]) H acc (fun y H4 => ∃ acc, H4 D = some (.lst acc) ∧ acc.length < sizeLine ∧ Adv [] H1 (upd H4 D (.lst (acc ++ [y]))) ∧ ∃ acc', (upd H4 D (.lst (acc ++ [y]))) D = some (.lst acc') ∧ IsDs (D :: M) (upd H4 D (.lst (acc ++ [y]))) (ds.take (i + 1)) acc')
      (List.getElem?_eq_getElem hi) a1 hacc (fun y H4 e4 a4 hy => ⟨acc, e4, by rw [sizeLine_eq]; omega, ?_, acc ++ [y], upd_same, ?_⟩)
    · exact Adv.mut (((a1.more (N := [D]) (by simp)).trans a4).drop hD) hD
    · have e1 : ds.take (i + 1) = ds.take i ++ [ds[i]] := by rw [List.take_succ, List.getElem?_eq_getElem hi]; rfl
      rw [e1]
      have m1 : ∀ b ∈ [D], b ∈ D :: M := fun b hb => by simp at hb; simp [hb]
      exact ((hds.adv (a4.more m1)).adv (Adv.set (by simp))).app (IsDs.one (hy.adv (Adv.set (by simp))))
  · obtain ⟨a1, acc, hacc, hds⟩ := p
    rw [hn, List.take_length] at hds
    exact hd H acc a1 hacc hds
theorem lc_dataL {M : List Addr} (ds : List PyData) (hn : xs.length = ds.length) (hD : H1 D = none) (src : SqL K H1 a xs) (hz : xs.length ≤ 1000000)
    (hs : ∀ (i : Nat) (x : V) (d : PyData) (H : Hp) (acc : List V) (R : V → Hp → Prop), xs[i]? = some x → ds[i]? = some d → Adv [] H1 H → H D = some (.lst acc) → (∀ y H4, H4 D = some (.lst acc) → Adv [D] H H4 → Is (D :: M) H4 d y → R y H4) → g x (wipe σ vs) H fun σ2 H2 => wipe σ2 vs = wipe σ vs ∧ te σ2 H2 R)
    (hd : ∀ H acc, Adv [] H1 H → H D = some (.lst acc) → IsDs (D :: M) H ds acc → Qd H) :
    ∃ W : Nat → Nat → Hp → Prop, (∃ m, W 0 m (upd H1 D (.lst []))) ∧ ∀ i m H, W i m H →
      ((Itl K a).stop i H ∧ Qd H) ∨ ((Itl K a).go i H ∧ ∃ Nx : Hp → Prop, (∀ H', Nx H' → ∃ m', m' < m ∧ W (i + 1) m' H') ∧ ∀ x H', (Itl K a).yld i H x H' → g x (wipe σ vs) H' fun σ2 H2 => wipe σ2 vs = wipe σ vs ∧ tYes σ2 H2 fun b H3 =>
        if b = true then te σ2 H3 fun y H4 => ∃ acc, H4 D = some (.lst acc) ∧ acc.length < sizeLine ∧ Nx (upd H4 D (.lst (acc ++ [y]))) else Nx H3) := by
  refine lc_list (K := K) (a := a) (xs := xs) (tt := tYes) (fun i H => Adv [] H1 H ∧ ∃ acc, H D = some (.lst acc) ∧ IsDs (D :: M) H (ds.take i) acc) ⟨Adv.new hD, [], upd_same, .nil⟩ (fun i H _ p => SqL.adv p.1 src) (fun i x H hx p => ?_) (fun H p => ?_)
  · have hi : i < ds.length := by
      rw [← hn]
      exact (List.getElem?_eq_some_iff.mp hx).1
    obtain ⟨a1, acc, hacc, hds⟩ := p
    have hlen := hds.len
    rw [List.length_take, Nat.min_eq_left (Nat.le_of_lt hi)] at hlen
    refine hs i x (ds[i]) H acc (fun y H4 => ∃ acc, H4 D = some (.lst acc) ∧ acc.length < sizeLine ∧ Adv [] H1 (upd H4 D (.lst (acc ++ [y]))) ∧ ∃ acc', (upd H4 D (.lst (acc ++ [y]))) D = some (.lst acc') ∧ IsDs (D :: M) (upd H4 D (.lst (acc ++ [y]))) (ds.take (i + 1)) acc')
      hx (List.getElem?_eq_getElem hi) a1 hacc (fun y H4 e4 a4 hy => ⟨acc, e4, by rw [sizeLine_eq]; omega, ?_, acc ++ [y], upd_same, ?_⟩)
    · exact Adv.mut (((a1.more (N := [D]) (by simp)).trans a4).drop hD) hD
    · have e1 : ds.take (i + 1) = ds.take i ++ [ds[i]] := by rw [List.take_succ, List.getElem?_eq_getElem hi]; rfl
      rw [e1]
      have m1 : ∀ b ∈ [D], b ∈ D :: M := fun b hb => by simp at hb; simp [hb]
      exact ((hds.adv (a4.more m1)).adv (Adv.set (by simp))).app (IsDs.one (hy.adv (Adv.set (by simp))))
  · obtain ⟨a1, acc, hacc, hds⟩ := p
    rw [hn, List.take_length] at hds
    exact hd H acc a1 hacc hds
theorem lc_dataT {M : List Addr} (ds : List PyData) (hn : xs.length = ds.length) (hD : H1 D = none) (src : SqT K H1 a xs) (hz : xs.length ≤ 1000000)
    (hs : ∀ (i : Nat) (x : V) (d : PyData) (H : Hp) (acc : List V) (R : V → Hp → Prop), xs[i]? = some x → ds[i]? = some d → Adv [] H1 H → H D = some (.lst acc) → (∀ y H4, H4 D = some (.lst acc) → Adv [D] H H4 → Is (D :: M) H4 d y → R y H4) → g x (wipe σ vs) H fun σ2 H2 => wipe σ2 vs = wipe σ vs ∧ te σ2 H2 R)
    (hd : ∀ H acc, Adv [] H1 H → H D = some (.lst acc) → IsDs (D :: M) H ds acc → Qd H) :
    ∃ W : Nat → Nat → Hp → Prop, (∃ m, W 0 m (upd H1 D (.lst []))) ∧ ∀ i m H, W i m H →
      ((Itt K a).stop i H ∧ Qd H) ∨ ((Itt K a).go i H ∧ ∃ Nx : Hp → Prop, (∀ H', Nx H' → ∃ m', m' < m ∧ W (i + 1) m' H') ∧ ∀ x H', (Itt K a).yld i H x H' → g x (wipe σ vs) H' fun σ2 H2 => wipe σ2 vs = wipe σ vs ∧ tYes σ2 H2 fun b H3 =>
        if b = true then te σ2 H3 fun y H4 => ∃ acc, H4 D = some (.lst acc) ∧ acc.length < sizeLine ∧ Nx (upd H4 D (.lst (acc ++ [y]))) else Nx H3) := by
  refine lc_tup (K := K) (a := a) (xs := xs) (tt := tYes) (fun i H => Adv [] H1 H ∧ ∃ acc, H D = some (.lst acc) ∧ IsDs (D :: M) H (ds.take i) acc) ⟨Adv.new hD, [], upd_same, .nil⟩ (fun i H _ p => SqT.adv p.1 src) (fun i x H hx p => ?_) (fun H p => ?_)
  · have hi : i < ds.length := by
      rw [← hn]
      exact (List.getElem?_eq_some_iff.mp hx).1
    obtain ⟨a1, acc, hacc, hds⟩ := p
    have hlen := hds.len
    rw [List.length_take, Nat.min_eq_left (Nat.le_of_lt hi)] at hlen
    refine hs i x (ds[i]) H acc (fun y H4 => ∃ acc, H4 D = some (.lst acc) ∧ acc.length < sizeLine ∧ Adv [] H1 (upd H4 D (.lst (acc ++ [y]))) ∧ ∃ acc', (upd H4 D (.lst (acc ++ [y]))) D = some (.lst acc') ∧ IsDs (D :: M) (upd H4 D (.lst (acc ++ [y]))) (ds.take (i + 1)) acc')
      hx (List.getElem?_eq_getElem hi) a1 hacc (fun y H4 e4 a4 hy => ⟨acc, e4, by rw [sizeLine_eq]; omega, ?_, acc ++ [y], upd_same, ?_⟩)
    · exact Adv.mut (((a1.more (N := [D]) (by simp)).trans a4).drop hD) hD
    · have e1 : ds.take (i + 1) = ds.take i ++ [ds[i]] := by rw [List.take_succ, List.getElem?_eq_getElem hi]; rfl
      rw [e1]
      have m1 : ∀ b ∈ [D], b ∈ D :: M := fun b hb => by simp at hb; simp [hb]
      exact ((hds.adv (a4.more m1)).adv (Adv.set (by simp))).app (IsDs.one (hy.adv (Adv.set (by simp))))
  · obtain ⟨a1, acc, hacc, hds⟩ := p
    rw [hn, List.take_length] at hds
    exact hd H acc a1 hacc hds
theorem range_filt_succ (ys : Nat → V) (c : Nat → Bool) (i : Nat) : ((List.range (i + 1)).filter c).map ys = ((List.range i).filter c).map ys ++ (if c i = true then [ys i] else []) := by
  rw [List.range_succ, List.filter_append, List.map_append]
  congr 1
  cases h : c i <;> simp [h]
/-- [e for x in t if c], t a tuple -/
theorem lc_filtT {tt : TT} (ys : Nat → V) (c : Nat → Bool) (hD : H1 D = none) (src : SqT K H1 a xs) (hz : xs.length ≤ 1000000)
    (hs : ∀ (i : Nat) (x : V) (H : Hp) (acc : List V) (R : V → Hp → Prop) (R0 : Hp → Prop), xs[i]? = some x → Adv [] H1 H → H D = some (.lst acc) → (c i = true → ∀ H4, H4 D = some (.lst acc) → Adv [] H1 H4 → R (ys i) H4) →
      (c i = false → ∀ H4, H4 D = some (.lst acc) → Adv [] H1 H4 → R0 H4) → g x (wipe σ vs) H fun σ2 H2 => wipe σ2 vs = wipe σ vs ∧ tt σ2 H2 fun b H3 => if b = true then te σ2 H3 R else R0 H3)
    (hd : ∀ H, Adv [] H1 H → H D = some (.lst (((List.range xs.length).filter c).map ys)) → Qd H) :
    ∃ W : Nat → Nat → Hp → Prop, (∃ m, W 0 m (upd H1 D (.lst []))) ∧ ∀ i m H, W i m H →
      ((Itt K a).stop i H ∧ Qd H) ∨ ((Itt K a).go i H ∧ ∃ Nx : Hp → Prop, (∀ H', Nx H' → ∃ m', m' < m ∧ W (i + 1) m' H') ∧ ∀ x H', (Itt K a).yld i H x H' → g x (wipe σ vs) H' fun σ2 H2 => wipe σ2 vs = wipe σ vs ∧ tt σ2 H2 fun b H3 =>
        if b = true then te σ2 H3 fun y H4 => ∃ acc, H4 D = some (.lst acc) ∧ acc.length < sizeLine ∧ Nx (upd H4 D (.lst (acc ++ [y]))) else Nx H3) := by
  refine lc_tup (K := K) (a := a) (xs := xs) (tt := tt) (fun i H => Adv [] H1 H ∧ H D = some (.lst (((List.range i).filter c).map ys))) ⟨Adv.new hD, upd_same⟩ (fun i H _ p => SqT.adv p.1 src) (fun i x H hx p => ?_) (fun H p => hd H p.1 p.2)
  have hi : i < xs.length := (List.getElem?_eq_some_iff.mp hx).1
  refine hs i x H _ (fun y H4 => ∃ acc, H4 D = some (.lst acc) ∧ acc.length < sizeLine ∧ Adv [] H1 (upd H4 D (.lst (acc ++ [y]))) ∧ (upd H4 D (.lst (acc ++ [y]))) D = some (.lst (((List.range (i + 1)).filter c).map ys)))
    (fun H3 => Adv [] H1 H3 ∧ H3 D = some (.lst (((List.range (i + 1)).filter c).map ys))) hx p.1 p.2 (fun hc H4 e4 a4 => ⟨_, e4, ?_, Adv.mut a4 hD, ?_⟩) (fun hc H4 e4 a4 => ⟨a4, ?_⟩)
  · have h1 := List.length_filter_le c (List.range i)
    rw [List.length_range] at h1
    rw [List.length_map, sizeLine_eq]
    omega
  · rw [upd_same, range_filt_succ, if_pos hc]
  · rw [e4, range_filt_succ, if_neg (by rw [hc]; decide), List.append_nil]
end
theorem range_map_list {ds : List PyData} (f : PyData → Bool) : ((List.range ds.length).map fun i => V.bl (f (ds.getD i .none))) = (ds.map f).map V.bl := by
  apply List.ext_getElem
  · simp
  · intro i h1 h2
    have h : i < ds.length := by simpa using h1
    simp [h]
/-! ### dicts whose keys are tuples -/
theorem val_mem (kvs : List (List Key × V)) (k : List Key) : (valV kvs k).isSome = memK k (kvs.map (·.1)) := by
  unfold valV memK
  rw [Option.isSome_map, List.any_map]
  induction kvs with
  | nil => rfl
  | cons p r ih =>
    rw [List.find?_cons, List.any_cons]
    show (match decide (p.1 = k) with | true => some p | false => r.find? fun kv => decide (kv.1 = k)).isSome = (decide (p.1 = k) || r.any _)
    cases decide (p.1 = k) with
    | true => rfl
    | false => rw [Bool.false_or]; exact ih
theorem put_new (kvs : List (List Key × V)) (k : List Key) (v : V) (h : memK k (kvs.map (·.1)) = false) : putK kvs k v = kvs ++ [(k, v)] := by
  unfold putK
  have e : (kvs.any fun kv => decide (kv.1 = k)) = false := by
    unfold memK at h
    rw [List.any_map] at h
    exact h
  rw [if_neg (by rw [e]; decide)]
/-! ### for i, x in enumerate(list), the list left as it is -/
theorem for_enum {K : PySem.W.Frag} {a : Addr} {xs : List V} {g : TG} {tb : TS} {D : Ends} {σ : L2.St} {H : Hp} (Pv : Nat → L2.St → Hp → Prop) (h0 : Pv 0 σ H) (hl : ∀ i σ H, i ≤ xs.length → Pv i σ H → H a = some (.lst xs))
    (hs : ∀ (i : Nat) (x : V) (T : Addr) (σ : L2.St) (H : Hp), xs[i]? = some x → Pv i σ H → H T = none → g (.ref T) σ (upd H T (.tup [.int (i : Nat), x])) fun σ2 H2 => tb { D with nx := Pv (i + 1), ct := Pv (i + 1), bk := D.nx } σ2 H2) (hd : ∀ σ H, Pv xs.length σ H → D.nx σ H) :
    ∃ W : Nat → Nat → L2.St → Hp → Prop, (∃ m, W 0 m σ H) ∧ ∀ i m σ H, W i m σ H →
      ((Ite K a).stop i H ∧ D.nx σ H) ∨ ((Ite K a).go i H ∧ ∃ N : L2.St → Hp → Prop, (∀ σ' H', N σ' H' → ∃ m', m' < m ∧ W (i + 1) m' σ' H') ∧ ∀ x H', (Ite K a).yld i H x H' → g x σ H' fun σ2 H2 => tb { D with nx := N, ct := N, bk := D.nx } σ2 H2) := by
  refine ⟨fun i m σ H => i + m = xs.length ∧ Pv i σ H, ⟨xs.length, by omega, h0⟩, ?_⟩
  rintro i m σ H ⟨em, p⟩
  have q : SqL K H a xs := SqL.of (hl i σ H (by omega) p)
  by_cases hlt : i < xs.length
  · refine .inr ⟨⟨xs, xs[i], q, List.getElem?_eq_getElem hlt⟩, Pv (i + 1), fun σ' H' p' => ⟨m - 1, by omega, by omega, p'⟩, fun x H' y => ?_⟩
    obtain ⟨T, y0, rfl, nT, rfl, f⟩ := y
    exact hs i y0 T σ H (f xs q) p nT
  · have e : i = xs.length := by omega
    subst e
    exact .inl ⟨⟨xs, q, Nat.le_refl _⟩, hd σ H p⟩
theorem not_mem_new {M : List Addr} {H : Hp} {p : Addr} (h : ∀ b ∈ M, H b ≠ none) (n : H p = none) : p ∉ M := fun z => h p z n
theorem yes_if {σ : L2.St} {H : Hp} {f : Bool → Hp → Prop} (h : f true H) : tYes σ H f := h
/-! ### ways that are never gone -/
def eNo : TE := fun _ _ _ => False
def cNo : TT := fun _ _ _ => False
theorem pe_never {X : Cx} {e : Expr} : PE X e eNo := ⟨fun _ _ _ _ _ _ h => h.elim⟩
theorem pt_never {X : Cx} {e : Expr} : PT X e cNo := ⟨fun _ _ _ _ _ _ h => h.elim⟩
/-- a comprehension over an empty dict that is locked -/
theorem lc_keys0 {d D : Addr} {o : Obj} {g : TG} {tt : TT} {te : TE} {vs : List Nat} {σ : L2.St} {H1 : Hp} {Qd : Hp → Prop} (hd0 : H1 d = some (.frz o (.dK []))) (hD : H1 D = none) (hd : Qd (upd H1 D (.lst []))) :
    ∃ W : Nat → Nat → Hp → Prop, (∃ m, W 0 m (upd H1 D (.lst []))) ∧ ∀ i m H, W i m H →
      ((Itk d o []).stop i H ∧ Qd H) ∨ ((Itk d o []).go i H ∧ ∃ Nx : Hp → Prop, (∀ H', Nx H' → ∃ m', m' < m ∧ W (i + 1) m' H') ∧ ∀ x H', (Itk d o []).yld i H x H' → g x (wipe σ vs) H' fun σ2 H2 => wipe σ2 vs = wipe σ vs ∧ tt σ2 H2 fun b H3 =>
        if b = true then te σ2 H3 fun y H4 => ∃ acc, H4 D = some (.lst acc) ∧ acc.length < sizeLine ∧ Nx (upd H4 D (.lst (acc ++ [y]))) else Nx H3) := by
  refine ⟨fun i m H => H = upd H1 D (.lst []), ⟨0, rfl⟩, ?_⟩
  rintro i m H rfl
  exact .inl ⟨⟨by rw [upd_ne (ne_of_none hd0 hD)]; exact hd0, Nat.zero_le _⟩, hd⟩
/-- a loop over an empty dict that is locked -/
theorem for_keys0 {d : Addr} {o : Obj} {g : TG} {tb : TS} {D : Ends} {σ : L2.St} {H1 : Hp} (hd0 : H1 d = some (.frz o (.dK []))) (hd : D.nx σ H1) :
    ∃ W : Nat → Nat → L2.St → Hp → Prop, (∃ m, W 0 m σ H1) ∧ ∀ i m σ H, W i m σ H →
      ((Itk d o []).stop i H ∧ D.nx σ H) ∨ ((Itk d o []).go i H ∧ ∃ N : L2.St → Hp → Prop, (∀ σ' H', N σ' H' → ∃ m', m' < m ∧ W (i + 1) m' σ' H') ∧ ∀ x H', (Itk d o []).yld i H x H' → g x σ H' fun σ2 H2 => tb { D with nx := N, ct := N, bk := D.nx } σ2 H2) := by
  refine ⟨fun i m σ' H => σ' = σ ∧ H = H1, ⟨0, rfl, rfl⟩, ?_⟩
  rintro i m σ' H ⟨rfl, rfl⟩
  exact .inl ⟨⟨hd0, Nat.zero_le _⟩, hd⟩
theorem IsDs.last {M : List Addr} {H : Hp} : ∀ {ds : List PyData} {d : PyData} {vs : List V}, IsDs M H (ds ++ [d]) vs → ∃ ws v, vs = ws ++ [v] ∧ IsDs M H ds ws ∧ Is M H d v
  | [], d, vs, x => by
    have x' : IsDs M H [d] vs := x
    unfold IsDs at x'
    obtain ⟨v, r, rfl, h1, h2⟩ := x'
    unfold IsDs at h2
    subst h2
    exact ⟨[], v, rfl, .nil, h1⟩
  | c :: ds, d, vs, x => by
    have x' : IsDs M H (c :: (ds ++ [d])) vs := x
    unfold IsDs at x'
    obtain ⟨v, r, rfl, h1, h2⟩ := x'
    obtain ⟨ws, u, rfl, h3, h4⟩ := h2.last
    exact ⟨v :: ws, u, rfl, .cons h1 h3, h4⟩
theorem Is.pair {M : List Addr} {H : Hp} {d e : PyData} {v : V} (x : Is M H (.tuple [d, e]) v) : ∃ t v1 v2, v = .ref t ∧ Tp M H t [v1, v2] ∧ Is M H d v1 ∧ Is M H e v2 := by
  obtain ⟨t, vs, rfl, ht, hs⟩ := x.tupE
  unfold IsDs at hs
  obtain ⟨v1, r, rfl, h1, h2⟩ := hs
  unfold IsDs at h2
  obtain ⟨v2, r2, rfl, h3, h4⟩ := h2
  unfold IsDs at h4
  subst h4
  exact ⟨t, v1, v2, rfl, ht, h1, h3⟩
theorem IsDs.of_get {M : List Addr} {H : Hp} : ∀ {ds : List PyData} {vs : List V}, vs.length = ds.length → (∀ (i : Nat) d v, ds[i]? = some d → vs[i]? = some v → Is M H d v) → IsDs M H ds vs
  | [], vs, hl, h => by
    have : vs = [] := List.length_eq_zero_iff.mp hl
    subst this
    exact .nil
  | d :: ds, [], hl, h => by simp at hl
  | d :: ds, v :: vs, hl, h => .cons (h 0 d v rfl rfl) (IsDs.of_get (by simpa using hl) fun i d' v' h1 h2 => h (i + 1) d' v' (by simpa using h1) (by simpa using h2))
end LL

set_option Elab.async false
set_option linter.all false
set_option maxRecDepth 100000
set_option maxHeartbeats 4000000
/-! LBook: a book of rows (a list, and the dict of its nodes), a stream beside it; written data -/
namespace LL
open PySem PySem.Spec PyProof.Rows L2
variable [KW]
def keyDt : Key → PyData
  | .inl i => .int i
  | .inr x => .str x
theorem ks_data {M : List Addr} {H : Hp} : ∀ ks : List Key, IsDs M H (ks.map keyDt) (ks.map kV)
  | [] => .nil
  | .inl i :: ks => .cons .int (ks_data ks)
  | .inr x :: ks => .cons .str (ks_data ks)
theorem nd_data {M : List Addr} {H : Hp} {a : Addr} {ks : List Key} (h : H a = some (.tup (ks.map kV))) (hn : a ∉ M) : Is M H (.tuple (ks.map keyDt)) (.ref a) := Is.tup h hn (ks_data ks)
theorem sz_key (k : Key) : sz (keyDt k) = 1 := by cases k <;> (unfold keyDt sz; rfl)
theorem dep_key (k : Key) : dep (keyDt k) = 0 := by cases k <;> (unfold keyDt dep; rfl)
theorem sz_tup (ds : List PyData) : sz (.tuple ds) = 1 + szL ds := by rw [sz]
theorem dep_tup (ds : List PyData) : dep (.tuple ds) = 1 + depL ds := by rw [dep]
theorem sz_lst (ds : List PyData) : sz (.list ds) = 1 + szL ds := by rw [sz]
theorem dep_lst (ds : List PyData) : dep (.list ds) = 1 + depL ds := by rw [dep]
theorem depL_cons (d : PyData) (ds : List PyData) : depL (d :: ds) = max (dep d) (depL ds) := by rw [depL]
theorem depL_nil : depL [] = 0 := by rw [depL]
theorem ks_sz : ∀ ks : List Key, szL (ks.map keyDt) = ks.length
  | [] => szL_nil
  | k :: ks => by rw [List.map_cons, szL_cons, ks_sz ks, List.length_cons, sz_key]; omega
theorem ks_dep : ∀ ks : List Key, depL (ks.map keyDt) = 0
  | [] => depL_nil
  | k :: ks => by rw [List.map_cons, depL_cons, ks_dep ks, dep_key]; rfl
/-- a datum as small as a node -/
def Small (d : PyData) : Prop := sz d ≤ 4 ∧ dep d ≤ 1 ∧ ∃ ks : List Key, d = .tuple (ks.map keyDt)
theorem nd_small {ks : List Key} (h : ks.length ≤ 3) : Small (.tuple (ks.map keyDt)) := by
  refine ⟨?_, ?_, ks, rfl⟩
  · rw [sz_tup, ks_sz]; omega
  · rw [dep_tup, ks_dep]; exact Nat.le_refl _
structure BookAt (M : List Addr) (H : Hp) (b0 b1 : Addr) (n : Nat) : Prop where
  rows : ∃ (rs : List V) (ds : List PyData) (kvs : List (List Key × V)), H b0 = some (.lst rs) ∧ rs.length = n ∧ IsDs M H ds rs ∧ (∀ d ∈ ds, Small d) ∧ H b1 = some (.dT kvs) ∧ kvs.length ≤ n ∧ ∀ p ∈ kvs, ∃ i : Nat, p.2 = .int i ∧ i < n
structure Bk (M : List Addr) (H : Hp) (s bk b0 b1 : Addr) (n : Nat) : Prop where
  str : StrAt M H s
  hbk : H bk = some (.lst [.ref b0, .ref b1])
  ms : s ∈ M
  m0 : b0 ∈ M
  m1 : b1 ∈ M
  kM : bk ∉ M
  ns0 : s ≠ b0
  ns1 : s ≠ b1
  n01 : b0 ≠ b1
  al : ∀ b ∈ M, H b ≠ none
  book : BookAt M H b0 b1 n
section
variable {M N : List Addr} {H H' : Hp} {s bk b0 b1 p : Addr} {n : Nat}
theorem alloc_adv (h : ∀ b ∈ M, H b ≠ none) (a : Adv N H H') (hN : ∀ b ∈ N, H' b ≠ none) : ∀ b ∈ M, H' b ≠ none := fun b hb => by
  by_cases e : b ∈ N
  · exact hN b e
  · cases q : H b with
    | none => exact absurd q (h b hb)
    | some o => rw [a b o e q]; simp
theorem Bk.adv (x : Bk M H s bk b0 b1 n) (a : Adv N H H') (h0 : b0 ∉ N) (h1 : b1 ∉ N) (hn : ∀ b ∈ N, b ∈ M) (hs : StrAt M H' s) (hal : ∀ b ∈ N, H' b ≠ none) : Bk M H' s bk b0 b1 n := by
  obtain ⟨x1, x2, x3, x4, x5, x6, x7, x8, x9, xa, rs, ds, kvs, r1, r2, r3, r4, r5, r6, r7⟩ := x
  exact ⟨hs, a _ _ (fun z => x6 (hn _ z)) x2, x3, x4, x5, x6, x7, x8, x9, alloc_adv xa a hal, ⟨rs, ds, kvs, a _ _ h0 r1, r2, r3.adv (a.more hn), r4, a _ _ h1 r5, r6, r7⟩⟩
theorem Bk.same (x : Bk M H s bk b0 b1 n) (a : Adv [] H H') : Bk M H' s bk b0 b1 n := x.adv a (by simp) (by simp) (by simp) (x.str.same a) (by simp)
theorem Bk.next (x : Bk M H s bk b0 b1 n) (a : Adv [s] H H') (hs : StrAt M H' s) : Bk M H' s bk b0 b1 n := x.adv a (by simpa using x.ns0.symm) (by simpa using x.ns1.symm) (by simpa using x.ms) hs (by simpa using hs.here)
theorem Bk.fresh (x : Bk M H s bk b0 b1 n) (h : H p = none) {o : HO} : Bk (p :: M) (upd H p o) s bk b0 b1 n := by
  have y := x.same (Adv.new (o := o) h)
  obtain ⟨_, _, _, _, _, _, _, _, _, _, rs, ds, kvs, r1, r2, r3, r4, r5, r6, r7⟩ := id x
  obtain ⟨x1, x2, x3, x4, x5, x6, x7, x8, x9, xa, _⟩ := y
  obtain ⟨z1, z2, z3, z4, z5, z6, z7, z8, z9, za, _⟩ := id x
  have a : Adv [] H (upd H p o) := Adv.new h
  exact ⟨(z1.fresh h).same a, x2, by simp [x3], by simp [x4], by simp [x5], fun z => (List.mem_cons.mp z).elim (ne_of_none z2 h) x6, x7, x8, x9,
    fun b hb => by
      rcases List.mem_cons.mp hb with e | hb
      · rw [e, upd_same]; simp
      · exact xa b hb, ⟨rs, ds, kvs, a.same _ _ r1, r2, (r3.fresh h).adv (a.more (by simp)), r4, a.same _ _ r5, r6, r7⟩⟩
theorem Bk.less (x : Bk (p :: M) H s bk b0 b1 n) (h1 : s ∈ M) (h2 : b0 ∈ M) (h3 : b1 ∈ M) : Bk M H s bk b0 b1 n := by
  obtain ⟨x1, x2, x3, x4, x5, x6, x7, x8, x9, xa, rs, ds, kvs, r1, r2, r3, r4, r5, r6, r7⟩ := x
  have m : ∀ b ∈ M, b ∈ p :: M := fun b hb => List.mem_cons_of_mem _ hb
  exact ⟨x1.less m, x2, h1, h2, h3, fun z => x6 (m _ z), x7, x8, x9, fun b hb => xa b (m b hb), ⟨rs, ds, kvs, r1, r2, r3.less m, r4, r5, r6, r7⟩⟩
theorem Bk.cong {m : Nat} (x : Bk M H s bk b0 b1 n) (e : n = m) : Bk M H s bk b0 b1 m := e ▸ x
end
theorem Bk.alloc {M : List Addr} {H : Hp} {s bk b0 b1 p : Addr} {n : Nat} (x : Bk M H s bk b0 b1 n) (h : H p = none) : p ≠ s ∧ p ≠ bk ∧ p ≠ b0 ∧ p ≠ b1 := by
  obtain ⟨x1, x2, x3, x4, x5, x6, x7, x8, x9, xa, rs, ds, kvs, r1, r2, r3, r4, r5, r6, r7⟩ := x
  refine ⟨fun z => x1.here (by rw [← z]; exact h), fun z => ?_, fun z => ?_, fun z => ?_⟩
  · rw [← z, h] at x2; cases x2
  · rw [← z, h] at r1; cases r1
  · rw [← z, h] at r5; cases r5
theorem Bk.put {M : List Addr} {H : Hp} {s bk b0 b1 D : Addr} {n : Nat} {o : HO} (x : Bk (D :: M) H s bk b0 b1 n) (h1 : D ≠ s) (h2 : D ≠ b0) (h3 : D ≠ b1) : Bk (D :: M) (upd H D o) s bk b0 b1 n :=
  x.adv (N := [D]) (Adv.set (by simp)) (by simpa using h2.symm) (by simpa using h3.symm) (by simp) (x.str.adv (N := [D]) (Adv.set (by simp)) (by simpa using h1.symm) (by simp)) (fun b hb => by rw [List.mem_singleton.mp hb, upd_same]; simp)
theorem Adv.one {s b0 b1 : Addr} {H H' : Hp} (a : Adv [s] H H') : Adv [s, b0, b1] H H' := a.more (by simp)
theorem Adv.two {s b0 b1 : Addr} {H H' : Hp} (a : Adv [b0, b1] H H') : Adv [s, b0, b1] H H' := a.more (by simp)
theorem Adv.nil {N : List Addr} {H H' : Hp} (a : Adv [] H H') : Adv N H H' := a.more (by simp)
theorem kV_str (x : Str) : kV (.inr x) = .str x := rfl
theorem kV_int (x : Int) : kV (.inl x) = .int x := rfl
/-! ### written data: what a display gives -/
def DE (te : TE) (σ : L2.St) (d : PyData) : Prop := ∀ (M : List Addr) (H : Hp) (Q : VK), (∀ b ∈ M, H b ≠ none) → (∀ v H', Is M H' d v → Adv [] H H' → Q v H') → te σ H Q
def DA (ta : TA) (σ : L2.St) (ds : List PyData) : Prop := ∀ (M : List Addr) (H : Hp) (Q : List V → Hp → Prop), (∀ b ∈ M, H b ≠ none) → (∀ vs H', IsDs M H' ds vs → Adv [] H H' → Q vs H') → ta σ H Q
theorem Adv.alloc {M : List Addr} {H H' : Hp} (a : Adv [] H H') (h : ∀ b ∈ M, H b ≠ none) : ∀ b ∈ M, H' b ≠ none := fun b hb => by
  cases e : H b with
  | none => exact absurd e (h b hb)
  | some o => rw [a.same _ _ e]; simp
section
variable {σ : L2.St} {te : TE} {ta : TA} {d : PyData} {ds : List PyData}
theorem de_int {i : Int} : DE (tC (.int i)) σ (.int i) := fun M H Q _ k => k _ _ .int (Adv.refl _ _)
theorem de_str {x : Str} : DE (tC (.str x)) σ (.str x) := fun M H Q _ k => k _ _ .str (Adv.refl _ _)
theorem de_bl {b : Bool} : DE (tC (.bl b)) σ (.bool b) := fun M H Q _ k => k _ _ .bl (Adv.refl _ _)
theorem de_non : DE (tC .non) σ .none := fun M H Q _ k => k _ _ .non (Adv.refl _ _)
theorem de_neg {i : Int} : DE (tUn (rU fun i => .int (-i)) (tC (.int i))) σ (.int (-i)) := fun M H Q _ k => ⟨i, rfl, k _ _ .int (Adv.refl _ _)⟩
theorem de_var {j : Nat} {i : Int} (h : σ[j]? = some (some (.int i))) : DE (tVar j) σ (.int i) := fun M H Q _ k => ⟨_, h, k _ _ .int (Adv.refl _ _)⟩
theorem de_varop {j : Nat} {i c : Int} {f : Int → Int → Int} (h : σ[j]? = some (some (.int i))) : DE (tOp (rI0 fun i j => .int (f i j)) (tVar j) (tC (.int c))) σ (.int (f i c)) := fun M H Q _ k => ⟨_, h, i, c, rfl, rfl, k _ _ .int (Adv.refl _ _)⟩
theorem de_pow {i c : Int} (h : CPow i c) : DE (tOp (rI CPow fun i j => .int (i ^ j.toNat)) (tC (.int i)) (tC (.int c))) σ (.int (i ^ c.toNat)) := fun M H Q _ k => ⟨i, c, rfl, rfl, h, k _ _ .int (Adv.refl _ _)⟩
theorem de_tup (h : DA ta σ ds) (hl : ds.length ≤ 1000) : DE (tTup ta) σ (.tuple ds) := fun M H Q hM k => h M H _ hM fun vs H' x a =>
  ⟨by rw [x.len, sizeLine_eq]; omega, fun p np => k _ _ (Is.tup upd_same (not_mem_new (a.alloc hM) np) (x.adv (Adv.nil (Adv.new np)))) (a.newT np)⟩
theorem de_lst (h : DA ta σ ds) (hl : ds.length ≤ 1000) : DE (tLst ta) σ (.list ds) := fun M H Q hM k => h M H _ hM fun vs H' x a =>
  ⟨by rw [x.len, sizeLine_eq]; omega, fun p np => k _ _ (Is.lst upd_same (not_mem_new (a.alloc hM) np) (x.adv (Adv.nil (Adv.new np)))) (a.newT np)⟩
theorem de_dic : DE tDNewK σ (.dict []) := fun M H Q hM k => fun p np => k _ _ (Is.dic upd_same (not_mem_new hM np)) (Adv.new np)
theorem da_nil : DA tNil σ [] := fun M H Q _ k => k _ _ .nil (Adv.refl _ _)
theorem da_cons (h1 : DE te σ d) (h2 : DA ta σ ds) : DA (tCons te ta) σ (d :: ds) := fun M H Q hM k => h1 M H _ hM fun v H1 x1 a1 => h2 M H1 _ (a1.alloc hM) fun vs H2 x2 a2 => k _ _ (.cons (x1.adv (Adv.nil a2)) x2) (a1.trans a2)
end
end LL

set_option Elab.async false
set_option linter.all false
set_option maxRecDepth 100000
set_option maxHeartbeats 4000000
namespace LL
open PySem PySem.Spec PyProof.Rows L2
variable [KW]
theorem IsDs.append_self {M : List Addr} {H : Hp} {ds : List PyData} {vs : List V} (h : IsDs M H ds vs) : ∀ n : Nat, IsDs M H (List.replicate n ds).flatten (List.replicate n vs).flatten
  | 0 => .nil
  | n + 1 => by
    rw [List.replicate_succ, List.replicate_succ, List.flatten_cons, List.flatten_cons]
    exact h.app (h.append_self n)
theorem de_rep {K : PySem.W.Frag} {σ : L2.St} {ta : TA} {ds : List PyData} {k : Int} (h : DA ta σ ds) (hl : ds ≠ [] ∧ ds.length ≤ 100) (hk : 2 ≤ k ∧ k ≤ 1000) : DE (tOp (rRepT K) (tTup ta) (tC (.int k))) σ (.tuple (List.replicate k.toNat ds).flatten) := fun M H Q hM kk => h M H _ hM fun vs H' x a =>
  ⟨by rw [x.len, sizeLine_eq]; omega, fun p np => ⟨p, k, vs, rfl, rfl, SqT.of upd_same, fun z => hl.1 (by have := x.len; rw [z] at this; exact List.length_eq_zero_iff.mp this.symm), hk.1, hk.2, by rw [x.len]; omega, fun q nq => by
    have a2 : Adv [] H (upd H' p (.tup vs)) := a.newT np
    exact kk _ _ (Is.tup upd_same (not_mem_new (a2.alloc hM) nq) ((x.append_self k.toNat).adv (Adv.nil ((Adv.new np).trans (Adv.new nq))))) (a2.newT nq)⟩⟩
theorem sz1_int (i : Int) : sz (.int i) = 1 := by unfold sz; rfl
theorem sz1_str (i : Str) : sz (.str i) = 1 := by unfold sz; rfl
theorem sz1_bool (i : Bool) : sz (.bool i) = 1 := by unfold sz; rfl
theorem sz1_none : sz .none = 1 := by unfold sz; rfl
theorem sz1_dict (l : List (PyData × PyData)) : sz (.dict l) = 1 := by unfold sz; rfl
theorem dep1_int (i : Int) : dep (.int i) = 0 := by unfold dep; rfl
theorem dep1_str (i : Str) : dep (.str i) = 0 := by unfold dep; rfl
theorem dep1_bool (i : Bool) : dep (.bool i) = 0 := by unfold dep; rfl
theorem dep1_none : dep .none = 0 := by unfold dep; rfl
theorem dep1_dict (l : List (PyData × PyData)) : dep (.dict l) = 0 := by unfold dep; rfl
end LL

set_option Elab.async false
set_option linter.all false
set_option maxRecDepth 100000
set_option maxHeartbeats 2000000
/-! LExc: raising with the context kept, clauses with a name, what is asked of a held error -/
namespace LL
open PySem PySem.Spec PyProof.Rows L2
/-! ### defs -/
section
variable {P : Program} {w : World} {K : PySem.W.Frag} {mg : Str → Option Value} {base : Heap}
theorem okXN {x qual : Str} {st : Stmt} {f : Addr} {fd : FuncData} {N ps : List Str} {k : Nat} {sp : Sp} (F : Fun K x qual st f fd) (S : FnScope N ps (defScope st))
    (len : ∀ vs H Q E, sp vs H Q E → vs.length = ps.length)
    (hb : ∀ (cdv : Value) (A : Around) (outer : List Env) (s : Shared) (H : Hp) (vs : List V) (Q : VK) (E : XK), Room k (A.deeper (envOfC qual (defScope st) s.heap.objs.size f cdv)) → sp vs H Q E →
      ∃ t, PSs (cxOf (L2N.CX P w) P w K mg base N qual (defScope st) f cdv A outer s H E) (defBody st) t ∧ t { nx := fun _ H' => Q .non H', rt := Q } (L2.start N vs) H) :
    FnOk P w K mg base (L2N.CX P w) (k + 1) f fd ps sp := by
  obtain ⟨o1, o2, kV, doc, pm, an, cdv, ct, osl, e, lk, hcd⟩ := F.ex
  subst e
  exact fn_of lk hcd S len fun A outer s H vs Q E hr hs => hb cdv A outer s H vs Q E hr hs
theorem okH {x qual : Str} {st : Stmt} {f : Addr} {fd : FuncData} {N ps : List Str} {k : Nat} {sp : Sp} (F : Fun K x qual st f fd) (S : FnScope N ps (defScope st))
    (len : ∀ vs H Q E, sp vs H Q E → vs.length = ps.length)
    (hb : ∀ (cdv : Value) (A : Around) (outer : List Env) (s : Shared) (H : Hp) (vs : List V) (Q : VK) (E : XK) (p : Addr × Obj), L2H.Hot1 A p → L2H.RoomH k (A.deeper (envOfC qual (defScope st) s.heap.objs.size f cdv)) → sp vs H Q E →
      ∃ t, PSs (L2H.cxH CX0 P w K mg base N qual (defScope st) f cdv A outer s H E p) (defBody st) t ∧ t { nx := fun _ H' => Q .non H', rt := Q } (L2.start N vs) H) :
    L2H.FnH P w K mg base CX0 (k + 1) f fd ps sp := by
  obtain ⟨o1, o2, kV, doc, pm, an, cdv, ct, osl, e, lk, hcd⟩ := F.ex
  subst e
  exact L2H.fn_ofH lk hcd S len fun A outer s H vs Q E p h1 h2 h3 => hb cdv A outer s H vs Q E p h1 h2 h3
end
/-! ### making an error -/
section
variable {X : Cx} {x : Str} {e : Expr} {es : List Expr} {ta : TA} {p pos : Pos}
theorem pmk_noargN {C : Addr} {bmB : List Value} {B newId initId : String} (F : ExcBaseFacts B newId initId bmB) (q : PySem.W.excIn X.K C bmB newId = true) (gC : X.mg x = some (.ref C)) (kC : PySem.W.keepIn X.K (.ref C) = true) (r : Raises X (.ref C)) (hg : Gl X x)
    (hdb : (x == ("__debug__" : Str)) = false := by decide) : L2N.PMk X (.Call (.Name x p) [] [] pos) (fun _ H Q => Q (.ref C) none H) := by
  intro pins s σ H Q I h
  refine wpAny_Call_Name_kw (ld_glob I hg gC ?_ hdb)
  refine PySem.W.callWith_K0 I.kIn kC ?_
  obtain ⟨bm, N, nm, qn, bs, hdct, sn, sub, ab, col, dd, k0, k1, k2, k3, k5, mN, hC, hN, hni, T⟩ := exc_obj I.kIn q
  exact wpAny_call_exc_subT F T hC hN hni (fun h' e hm => L2N.mk_of I hm r h (I.hok.gone hm.new)) (Nat.zero_le _)
theorem pmk_initN {CX : CXT} {C fI : Addr} {k : Nat} {fd : FuncData} {ps : List Str} {sp : Sp} {ds : List Value} {dvs : List V} (T : OexC X.K C) (iC : PySem.W.findIn X.K (.ref C) "__init__" = some (some (.ref fI)))
    (tI : PySem.W.typeIn X.K (.ref fI) = some (.type "function")) (F1 : FnOk X.prog X.w X.K X.mg X.base CX k fI fd ps sp) (hr : Room (k + 1) X.A) (hb : Binds X.K fd ps ds) (hd : Vals dvs ds) (hx : Passes CX X (fun _ _ _ => False)) (hg : Gl X x) (hm : X.mg x = some (.ref C))
    (ha : PA X (e :: es) ta) (hdb : (x == ("__debug__" : Str)) = false := by decide) (he : starEach (e :: es) X.env = (false, eval e X.env) :: starEach es X.env := by rfl) (hpl : (backTo pos (starEach es X.env)).any (·.1) = false := by rfl) :
    L2N.PMk X (.Call (.Name x p) (e :: es) [] pos) (tMkO C sp dvs ta) := by
  intro pins s σ H Q I h
  obtain ⟨nm, q, N, bs, bm, sn, sub, ab, col, dd, k0, k1, k2, k3, k5, hC, hbm⟩ := T.cls
  refine wpAny_Call_Name_kw (ld_glob I hg hm ?_ hdb)
  refine PySem.W.callWith_K (h₀ := X.base) I.ok.mod.kin T.kC (thn (ha.run pos pins s σ H _ I h) fun us s1 ⟨vs, H1, I1, r1, hz, q1⟩ => ⟨I1.kIn, ?_⟩) he hpl
  show wpAny _ _ (call (.ref C) us) _ _ _
  obtain ⟨hp, g, dr, tk, os⟩ := s1
  have ln : hp.objs.size ≤ hp.objs.size + 1 := Nat.le_succ _
  have fr : H1 (hp.objs.size + 1) = none := I1.hok.fresh ln
  have spq := q1 (hp.objs.size + 1) fr
  have old : ∀ b o, hp.get? b = some o → ((hp.push (PySem.W.kdv_tup us)).push (PySem.HandSPX.excO C hp.objs.size)).get? b = some o := fun b o e => Heap.get?_push_of_some _ (Heap.get?_push_of_some _ e)
  have its : ((hp.push (PySem.W.kdv_tup us)).push (PySem.HandSPX.excO C hp.objs.size)).get? (hp.objs.size + 1) = some (PySem.HandSPX.excO C hp.objs.size) := by heap_get
  have I2 : Inv X pins σ (upd H1 (hp.objs.size + 1) (exo (hp.objs.size + 1) C none)) ⟨(hp.push (PySem.W.kdv_tup us)).push (PySem.HandSPX.excO C hp.objs.size), g, dr, tk, os⟩ :=
    I1.laid (t' := tk) (a := hp.objs.size + 1) (o := exo (hp.objs.size + 1) C none) (h' := (hp.push (PySem.W.kdv_tup us)).push (PySem.HandSPX.excO C hp.objs.size)) old ln (exo_ok its)
  have vr : Vals (V.ref (hp.objs.size + 1) :: (vs ++ dvs)) (Value.ref (hp.objs.size + 1) :: (us ++ ds)) := .cons rfl (r1.append hd)
  have hl : (Value.ref (hp.objs.size + 1) :: us ++ ds).length = ps.length := by
    have e := vr.length
    rw [F1.len _ _ _ _ spq] at e
    exact e.symm
  have su : us.length ≤ sizeLine := by
    have := Paired.length r1
    rw [sizeLine_eq]; omega
  refine wpAny_call (PySem.HandSPX.call_own F.excBase_ValueError (fun Y => PySem.HandSPX.refsVE_contains Y bm hbm) (I1.kIn _ _ hC) (PySem.W.looks_findIn I1.kIn iC) (fun self => PySem.W.bind_fn I1.kIn self tI) su
    (codeAny_mono (F1.run _ X.stack _ _ ⟨Value.ref (hp.objs.size + 1) :: us, []⟩ (Value.ref (hp.objs.size + 1) :: (us ++ ds)) _ _ (fun _ _ _ => False) (hr.make C us []) (I2.env0.make C us []) (hb _ (Value.ref (hp.objs.size + 1) :: us) I2.kIn hl) vr spq) fun r s' hq => ?_))
  cases r with
  | error er => exact hx pins σ _ _ er s' I2 hq
  | ok fl =>
    cases fl with
    | next => exact False.elim hq
    | brk => exact False.elim hq
    | cont => exact False.elim hq
    | ret u =>
      obtain ⟨v, H2, o2, b2, u2, k2', rv, ev, d, fs, ea, ed, hd1, q2⟩ := hq
      subst ev
      obtain ⟨h2, g2, d2, t2, os'⟩ := s'
      obtain ⟨t0, G, J, kG, ge, hoe, na⟩ := mk_end0 (d2 := d2) (t2 := t2) I1 ln old u2 k2' o2 b2 ea ed hd1
      exact ⟨rv, hp.objs.size + 1, _, _, ⟨G, g2, d2, t2, os'⟩, _, .ref C, some d, rfl, J, kG, ge, hoe, ⟨rfl, rfl, fun vs e => by cases e; rfl⟩, rfl, rfl, na, rfl, b2, raises_own T.exC T.tyC, q2⟩
end
/-! ### list.count, flat items -/
def rCntF (K : PySem.W.Frag) : V → List V → Hp → VK → Prop := fun x xs H Q => ∃ (a : Addr) (ys : List V) (y : V), x = V.ref a ∧ xs = [y] ∧ SqL K H a ys ∧ flatV y = true ∧ ys.all flatV = true ∧ Q (.int ((ys.countP fun z => eqV z y) : Nat)) H
theorem count_eqU {y : V} : ∀ {ys : List V} {its : List Value}, Vals ys its → ys.all flatV = true → its.countP (eqU y) = ys.countP fun z => eqV z y
  | [], _, .nil, _ => rfl
  | z :: ys, u :: its, .cons r rs, h => by
    rw [List.all_cons, Bool.and_eq_true] at h
    rw [List.countP_cons, List.countP_cons, count_eqU rs h.2, eqU_of r h.1]
theorem mt_countF {X : Cx} : MtR X "list.count" (rCntF X.K) := by
  intro pins s σ H x xs v us Q I rx rxs h
  obtain ⟨a, ys, y, rfl, rfl, hs, fy, fys, q⟩ := h
  cases rx
  obtain ⟨u, rfl, ru⟩ := rxs.one
  obtain ⟨its, rv, ⟨⟨cls, dd, data, sl⟩, n, ho, hc, hdn, hd⟩, hlen⟩ := I.list hs
  simp only at hc hd
  subst hc hd
  refine call_meets PySem.F.slot_list_count ⟨_, ho, rfl⟩ PySem.F.entry_list_count (PySem.F.args_list_count_2 _ _)
    (SeqAt.list_countAt a its.toArray n dd sl u (eqU y)) ⟨ho, fun z hz => mem_eqAt ru fy rv fys z (by simpa using hz), ?_⟩
  refine ⟨.int ((ys.countP fun z => eqV z y) : Nat), H, I.tok _, ⟨s.toks, ?_⟩, q⟩
  rw [← count_eqU rv fys]
end LL

set_option Elab.async false
set_option linter.all false
set_option maxRecDepth 100000
set_option maxHeartbeats 2000000
/-! LExd: isinstance of a held error whatever its dict; try with clauses that name the error -/
namespace LL
open PySem PySem.Spec PyProof.Rows L2
section
open PySem.W PySem.Calls
variable {prog : Program} {w : World} {A : Around} {E : Value → Shared → Prop} {s : Shared} {K : Frag} {x D : Addr} {ox : Obj} {od : Option Obj}
theorem held_class {Q : Option Value → Shared → Prop} (C : ExcC K D) (X : K.In s.heap) (I : InstAt s.heap x ox D od) (h : Q (some (.ref D)) { s with toks := s.toks + 1 }) :
    wpAny (model prog w) A (getAttr? (.ref x) "__class__") Q E s := by
  have hf : findObj K D od "__class__" = some (.bind (.builtin "getset_descriptor.__get__") (.builtin "object.__class__")) := by
    obtain ⟨cd, hc, _⟩ := any_some C.hd
    unfold findObj
    rw [hc, Option.bind_some, C.ha, Option.bind_some]
    simp [C.hn, C.ht]
  obtain ⟨hp, g, d, t, os⟩ := s
  have L0 := I.type (M := model prog w)
  have L1 := looks_findIn (M := model prog w) X C.hg
  have L2' := looks_findIn (M := model prog w) X C.hk
  have L3 := looks_find (M := model prog w) X I hf
  have sub : Looks (model prog w) hp (isInstance (.ref x) (.type "BaseException")) true := L0.andThen (looks_subIn X C.hs)
  have y0 : (false && onTheHeap (Value.builtin "BaseException.__getattribute__")) = false := rfl
  have y2 : (Value.builtin "BaseException.__getattribute__" == Value.builtin "object.__getattribute__") = false := by decide +kernel
  have y1 : (onTheHeap (Value.ref D) && Value.builtin "BaseException.__getattribute__" == Value.builtin "object.__getattribute__") = false := by rw [y2]; rfl
  unfold getAttr? getAttrBy? getAttrBy
  refine wpAny_bind (wpAny_mkText (wpAny_bind (wpAny_attempt (wpAny_holding (wpAny_bind (L0.at (wpAny_bind (L1.at ?_))))))))
  show wpAny _ _ (if (onTheHeap (Value.ref D) && Value.builtin "BaseException.__getattribute__" == Value.builtin "object.__getattribute__") = true then _ else _) _ _ _
  rw [y1, if_neg Bool.false_ne_true]
  unfold getAttrByItsOwn hookBefore
  refine wpAny_bind ?_
  rw [if_pos (show onTheHeap (Value.ref D) = true from rfl)]
  refine L2'.at (wpAny_bind (wpAny_attempt (wpAny_holding ?_)))
  unfold callGetattribute
  rw [y0, if_neg Bool.false_ne_true]
  unfold boundAndCalled
  rw [PySem.F.excAttr_ValueError.ga.bind (.ref x)]
  refine wpAny_bind (wpAny_pure ?_)
  show wpAny _ _ (call (.builtin "BaseException.__getattribute__") [.ref x, .str "__class__" t]) _ _ _
  refine wpAny_call (codeAny_call_builtin PySem.F.excAttr_ValueError.ga.plain PySem.F.entry_bexc_ga ?_)
  refine @check_slot (model prog w) _ _ ⟨hp, g, d, t + 1, os⟩ "BaseException.__getattribute__" "BaseException" "__getattribute__" (.ref x) [.str "__class__" t] [] _ (by decide +kernel) (by decide +kernel) sub (PySem.F.args_bexc_ga (.ref x) (.str "__class__" t)) ?_
  unfold Builtin.«object.__getattribute__»
  refine wpAny_bind (wpAny_of_eq (a := ((Value.ref x : Value), [Value.str "__class__" t])) (by first | rfl | (simp only [slotArgs]; rfl)) ?_)
  refine wpAny_bind (wpAny_pure (wpAny_bind (L0.at (wpAny_bind (L3.at ?_)))))
  show wpAny _ _ (holding [Value.builtin "object.__class__"] (call (.builtin "getset_descriptor.__get__") [.builtin "object.__class__", .ref x, .ref D]) >>= ret) _ _ _
  refine wpAny_bind (wpAny_holding (wpAny_call (class_get (s := ⟨hp, g, d, t + 1, os⟩) (ox := ox) (od := od) X I C.hm ?_)))
  refine wpAny_pure ?_
  show wpAny _ _ (handedOut (.ref D)) _ _ _
  rw [handedOut_of (v := .ref D) rfl]
  first
    | exact wpAny_pure (wpAny_pure h)
    | exact wpAny_pure h
    | exact wpAny_pure (wpAny_bind (wpAny_pure (wpAny_pure h)))
theorem held_kit (C : ExcC K D) : KitX K (.ref x) (.ref D) (fun h => InstAt h x ox D od) := by
  refine ⟨fun _ _ _ I => I.type, fun _ _ X _ => ?_, fun h tp dd its n sl X htp => ?_, fun X I k => held_class C X I k⟩
  · obtain ⟨cdD, hcD, _⟩ := any_some C.hd
    unfold clsIn at hcD
    split at hcD
    · rename_i c' d' cd' sl' ho
      intro A' Q' E' s' k q
      unfold isType loadHead
      exact wpAny_bind (wpAny_loadPart (k _ _ (X _ _ ho)) (wpAny_pure q))
    · cases hcD
  · obtain ⟨cdD, hcD, _⟩ := any_some C.hd
    refine Bool.eq_false_iff.mpr fun q => ?_
    obtain rfl : D = tp := Value.ref.inj (beq_iff_eq.mp q)
    unfold clsIn at hcD
    split at hcD
    · rename_i c' d' cd' sl' ho
      cases (X _ _ ho).symm.trans htp
    · cases hcD
end
/-- isinstance(e, c), e a held error at a, of class D, its dict d -/
def rIsP (K : PySem.W.Frag) (D a : Addr) (d : Option Addr) : List V → Hp → VK → Prop := fun xs H Q => ∃ (c : V) (cv : Value) (b : Bool), xs = [.ref a, c] ∧ (∀ u, RelV c u → u = cv) ∧ (∀ dd, d = some dd → ∃ fs, H dd = some (.xd fs)) ∧ PySem.W.kitOne K (.ref D) cv = some b ∧ Q (.bl b) H
theorem call_isP {X : Cx} {a D : Addr} {oe : Obj} {d : Option Addr} (C : ExcC X.K D) (hz : Zc (.ref D) d oe) (hf : ∃ vs, oe.data = .fields vs) (hp : (a, oe) ∈ X.pn) : CallR X (.builtin "isinstance") (rIsP X.K D a d) := by
  intro pins s σ H xs us Q I r h
  obtain ⟨c, cv, b, rfl, hcv, hd, e, q⟩ := h
  cases r with
  | cons rx rr =>
    cases rr with
    | cons rt rr =>
      cases rr
      cases rx
      have ec := hcv _ rt
      subst ec
      obtain ⟨hget, _⟩ := I.pin (a, oe) (List.mem_append.mpr (.inl hp))
      obtain ⟨vs, hv⟩ := hf
      have J : ∃ od, PySem.W.InstAt s.heap a oe D od := by
        obtain ⟨oc, o1, oda, osl⟩ := oe
        obtain ⟨h1, h2⟩ := hz
        dsimp only at h1 h2 hv
        subst h1 h2 hv
        cases o1 with
        | none => exact ⟨none, hget, rfl, rfl, trivial⟩
        | some dd =>
          obtain ⟨fs, ea⟩ := hd dd rfl
          obtain ⟨mA, hns, _⟩ := I.hok dd _ ea
          obtain ⟨od, ho, _⟩ := lookIn_ns hns
          exact ⟨some od, hget, rfl, rfl, ho⟩
      obtain ⟨od, J⟩ := J
      exact PySem.W.kia_one (held_kit C) I.kIn J e (fun z => nomatch z) fun tk => ⟨.bl b, H, I.kept (t' := tk) fun _ _ z => z, rfl, q⟩
/-! ### try with clauses that name the error -/
def wAsMany (K : PySem.W.Frag) (i : Nat) (Wout : WX) (D : Ends) : List (Value × (Addr → Value → Option Addr → TS)) → WX
  | [] => Wout
  | (c, ts) :: l => fun cls d σ H => ∃ b, PySem.W.exmOne K cls c = some b ∧
      (b = true → ∀ a, H a = none → ts a cls d { nx := fun σ' H' => D.nx (σ'.set i none) H', rt := D.rt, bk := fun σ' H' => D.bk (σ'.set i none) H', ct := fun σ' H' => D.ct (σ'.set i none) H' } (σ.set i (some (.ref a))) H) ∧
      (b = false → wAsMany K i Wout D l cls d σ H)
inductive HdsAs (X : Cx) (n : Str) : List ExceptHandler → List (Value × (Addr → Value → Option Addr → TS)) → Prop
  | nil : HdsAs X n [] []
  | cons {x : Str} {c : Value} {ts : Addr → Value → Option Addr → TS} {b₀ : Stmt} {suite : List Stmt} {np pos' : Pos} {hds : List ExceptHandler} {l : List (Value × (Addr → Value → Option Addr → TS))} (hc : Names X x c)
      (hsu : ∀ (a : Addr) (oe : Obj) (cls : Value) (d : Option Addr) (pn : List (Addr × Obj)), L2N.Zn cls d oe → (∃ vs, oe.data = .fields vs) → PSs (X.suite a ((a, oe) :: pn)) (b₀ :: suite) (ts a cls d)) (r : HdsAs X n hds l) :
      HdsAs X n (.ExceptHandler (some (.Name x np)) (some n) (b₀ :: suite) pos' :: hds) ((c, ts) :: l)
  /-- a clause that is never gone -/
  | dead {x : Str} {c : Value} {b₀ : Stmt} {suite : List Stmt} {np pos' : Pos} {hds : List ExceptHandler} {l : List (Value × (Addr → Value → Option Addr → TS))} (hc : Names X x c) (r : HdsAs X n hds l) :
      HdsAs X n (.ExceptHandler (some (.Name x np)) none (b₀ :: suite) pos' :: hds) ((c, fun _ _ _ _ _ _ => False) :: l)
section
open L2N
variable {X : Cx} {n : Str} {i : Nat} {body : List Stmt} {h₀ : ExceptHandler} {hds : List ExceptHandler} {l : List (Value × (Addr → Value → Option Addr → TS))} {pos : Pos} {tb : WX → TS} {Wout : WX}
theorem ps_tryAs (hs : X.stack = X.env :: X.outer) (hf : X.env.frame = some X.env.locals) (hN : X.N.Nodup) (hi : X.N[i]? = some n) (hln : X.env.kindOf n = some .local) (tk : L2N.Takes X Wout)
    (hb : ∀ (W : WX) (pn : List (Addr × Obj)) (xe : Value → Shared → Prop), L2N.Takes (X.tr pn xe) W → PassesOwn (model X.prog X.w) X.A X.env xe → PSs (X.tr pn xe) body (tb W))
    (hh : HdsAs X n (h₀ :: hds) l) : PS X (.Try body (h₀ :: hds) [] [] pos) (fun D σ H => tb (wAsMany X.K i Wout D l) D σ H) := by
  refine ⟨fun pins s σ H D I h => ?_⟩
  have ok := I.ok
  have hfr : X.A.frames = some (X.env :: X.outer) := by rw [ok.frames, hs]
  have hloc : Loc X.env.scope n := .inl hln
  refine wpAny_Try_except (wpAny_mono ((hb (wAsMany X.K i Wout D l) (X.pn ++ pins) (fun e s₁ => wpAny (model X.prog X.w) X.A (noteFrame e X.env) (fun _ s₂ => wpAny (model X.prog X.w) X.A (setFlight e none) (fun _ s₃ =>
    wpAny (model X.prog X.w) X.A (handleBy e X.env (h₀ :: hds)) (SP X pins D) X.xe s₃) X.xe s₂) X.xe s₁) (fun u s' xx => ?_) PassesOwn.looking).run [] s σ H D (I.toTry _) h) (fun f s1 hsp => ?_) (fun e s1 he => he))
  · obtain ⟨a, B, sI, pins', σ', H', cls, d, rfl, J', nb, up, sky, na, os, ag, w⟩ := xx
    have J : Inv X pins σ' H' sI := J'.ofTry ok
    show wpAny (model X.prog X.w) X.A (noteFrame (.ref a) X.env) _ _ _
    refine L2N.Sky.land (B := B) (L := X.env.locals) Zn.steady hfr hf (by rw [← hs]; exact sky) fun h3 fl3 up3 => ?_
    have J3 : Inv X pins σ' H' { s' with heap := h3 } := J.landed nb fl3.1 (up.trans up3) os ag
    obtain ⟨oe3, vs3, he3, hz3, hd3⟩ := fl3.there
    have nfr : a ∉ frs (X.env :: X.outer) := fun hm => by
      obtain ⟨_, o', e', hnf⟩ := fl3.2.2.1.mem hm
      rw [he3] at e'; cases e'
      exact hnf _ hd3
    have nL : a ≠ X.env.locals := fun z => nfr (List.mem_filterMap.mpr ⟨X.env, List.mem_cons_self, by rw [hf, z]⟩)
    have nF : a ∉ X.fs := fun hm => by
      obtain ⟨e, he, q⟩ := List.mem_filterMap.mp hm
      exact nfr (List.mem_filterMap.mpr ⟨e, List.mem_cons_of_mem _ he, q⟩)
    have S3 := J3.suite he3 hd3 na nL nF
    have go : ∀ {hds' : List ExceptHandler} {l' : List (Value × (Addr → Value → Option Addr → TS))}, HdsAs X n hds' l' → wAsMany X.K i Wout D l' cls d σ' H' →
        wpAny (model X.prog X.w) X.A (handleBy (.ref a) X.env hds') (SP X pins D) X.xe { s' with heap := h3 } := by
      intro hds' l' hk
      induction hk with
      | nil =>
        intro w
        refine wpAny_handleBy_nil ?_
        obtain ⟨k1, k2, k3, oe, vs, T, oT, ts', he, hz, hd, h1, hr⟩ := id fl3
        unfold PySem.passOn
        refine wpAny_bind (wpAny_field he hd h1 ?_)
        rw [if_neg (show ¬ ((Value.ref T == Value.none) = true) from by simp)]
        have fin : wpAny (model X.prog X.w) X.A (setFlight (.ref a) X.env.frame) (fun _ s4 => wpAny (model X.prog X.w) X.A (throw (.ref a) : Sem Flow) (SP X pins D) X.xe s4) X.xe { s' with heap := h3 } := by
          rw [hf]
          exact HandSPX.setFlight_upZ fl3 fun h4 hh4 up4 => wpAny_throw (tk _ _ ⟨a, B, sI, pins, σ', H', cls, d, rfl, J, nb, (up.trans up3).trans up4, .inr (.inr (by rw [hs]; exact hh4)), na, os, ag, w⟩)
        first
          | exact wpAny_bind (wpAny_pure (wpAny_bind fin))
          | exact wpAny_bind fin
      | @dead x c b₀ suite np pos' hds2 l2 hc r ih =>
        intro w
        obtain ⟨b, hb1, hyes, hno⟩ := w
        refine wpAny_handleBy_cons (codeAny_handlers_test ?_) (by intro q; cases q)
        have LT : PySem.W.Looks (model X.prog X.w) h3 (typeOf (.ref a)) cls := fun A Q E s k q => wpAny_typeOf_ref (k _ _ he3) (by rw [hz3.1]; exact q)
        have LM := PySem.W.exm_one (M := model X.prog X.w) (J3.kIn) LT hb1
        have test : ∀ {Q : Value → Shared → Prop} {E : Value → Shared → Prop}, Q c { s' with heap := h3 } → wpAny (model X.prog X.w) (X.A.mark (some (.ref a))) (eval (.Name x np) X.env) Q E { s' with heap := h3 } := fun {Q E} q => by
          obtain ⟨hg, hdbg, hm | ⟨hm, hv, hnn⟩⟩ := hc
          · exact ld_glob (X := X.suite a ((a, oe3) :: (X.pn ++ pins))) S3 hg hm q hdbg
          · exact ld_blt (X := X.suite a ((a, oe3) :: (X.pn ++ pins))) S3 hg hm hv q hnn hdbg
        refine test (LM.here ?_)
        cases b with
        | false =>
          show wpAny _ X.A (handleBy (.ref a) X.env hds2) _ _ _
          exact ih (hno rfl)
        | true => exact (hyes rfl a na).elim
      | @cons x c ts b₀ suite np pos' hds2 l2 hc hsu r ih =>
        intro w
        obtain ⟨b, hb1, hyes, hno⟩ := w
        refine wpAny_handleBy_cons (codeAny_handlers_test ?_) (by intro q; cases q)
        have LT : PySem.W.Looks (model X.prog X.w) h3 (typeOf (.ref a)) cls := fun A Q E s k q => wpAny_typeOf_ref (k _ _ he3) (by rw [hz3.1]; exact q)
        have LM := PySem.W.exm_one (M := model X.prog X.w) (J3.kIn) LT hb1
        have test : ∀ {Q : Value → Shared → Prop} {E : Value → Shared → Prop}, Q c { s' with heap := h3 } → wpAny (model X.prog X.w) (X.A.mark (some (.ref a))) (eval (.Name x np) X.env) Q E { s' with heap := h3 } := fun {Q E} q => by
          obtain ⟨hg, hdbg, hm | ⟨hm, hv, hnn⟩⟩ := hc
          · exact ld_glob (X := X.suite a ((a, oe3) :: (X.pn ++ pins))) S3 hg hm q hdbg
          · exact ld_blt (X := X.suite a ((a, oe3) :: (X.pn ++ pins))) S3 hg hm hv q hnn hdbg
        refine test (LM.here ?_)
        cases b with
        | false =>
          show wpAny _ X.A (handleBy (.ref a) X.env hds2) _ _ _
          exact ih (hno rfl)
        | true =>
          refine codeAny_handlers_suite_as (HandSPX.lands_againZ fl3 fun h4 fl4 up4 => ?_)
          have J4 : Inv X pins σ' H' { s' with heap := h4 } := J.landed nb fl4.1 ((up.trans up3).trans up4) os ag
          obtain ⟨oe4, vs4, he4, hz4, hd4⟩ := fl4.there
          have S4 := J4.suite he4 hd4 na nL nF
          refine store_ok (X := X.suite a ((a, oe4) :: (X.pn ++ pins))) (v := .ref a) S4 hN hi hloc rfl (fun s5 S5 => ?_) (.inr hln)
          refine wpAny_mono ((hsu a oe4 cls d (X.pn ++ pins) hz4 ⟨_, hd4⟩).run [] s5 _ H' _ S5 (hyes rfl a na)) (fun f s6 hsp => ?_) (fun _ _ z => False.elim z)
          have done : ∀ {σ6 : L2.St} {H6 : Hp} {Q : Shared → Prop}, Inv (X.suite a ((a, oe4) :: (X.pn ++ pins))) [] σ6 H6 s6 → (∀ s7, Inv X pins (σ6.set i none) H6 s7 → Q s7) →
              wpAny (model X.prog X.w) X.A (do bindName X.env n .none; unbindBehindTheSuite X.env n pos') (fun _ s7 => Q s7) X.xe s6 := fun {σ6 H6 Q} S6 hq => gone_ok (S6.unsuite ok) hN hi hln hq
          cases f with
          | ret u =>
            obtain ⟨v6, σ6, H6, S6, r6, q6⟩ := hsp
            exact done S6 fun s7 J7 => ⟨_, _, _, J7, r6, q6⟩
          | next => obtain ⟨σ6, H6, S6, q6⟩ := hsp; exact done S6 fun s7 J7 => ⟨_, _, J7, q6⟩
          | brk => obtain ⟨σ6, H6, S6, q6⟩ := hsp; exact done S6 fun s7 J7 => ⟨_, _, J7, q6⟩
          | cont => obtain ⟨σ6, H6, S6, q6⟩ := hsp; exact done S6 fun s7 J7 => ⟨_, _, J7, q6⟩
    exact go hh w
  · cases f with
    | next => obtain ⟨σ', H', J', q⟩ := hsp; exact wpAny_execs_nil ⟨σ', H', J'.ofTry ok, q⟩
    | brk => obtain ⟨σ', H', J', q⟩ := hsp; exact ⟨σ', H', J'.ofTry ok, q⟩
    | cont => obtain ⟨σ', H', J', q⟩ := hsp; exact ⟨σ', H', J'.ofTry ok, q⟩
    | ret u => obtain ⟨v, σ', H', J', r, q⟩ := hsp; exact ⟨v, σ', H', J'.ofTry ok, r, q⟩
end
end LL

set_option Elab.async false
set_option linter.all false
set_option maxRecDepth 100000
set_option maxHeartbeats 2000000
/-! LNam: a def that is called in an except suite with the held error itself -/
namespace LL
open PySem PySem.Spec PyProof.Rows L2 L2H
/-- what a def promises of a call whose argument may be the held error p -/
structure FnP (P : Program) (w : World) (K : PySem.W.Frag) (mg : Str → Option Value) (base : Heap) (k : Nat) (f : Addr) (fd : FuncData) (ps : List Str) (sp : Addr × Obj → Sp) : Prop where
  len : ∀ p vs H Q E, sp p vs H Q E → vs.length = ps.length
  run : ∀ (A : Around) (outer : List Env) (s : Shared) (H : Hp) (args : Args) (us : List Value) (vs : List V) (Q : VK) (E : XK) (p : Addr × Obj), RoomH k A → PinOk outer H s p → Env0 P w K mg base A outer s H → BindsTo s fd args (ps.zip us) → Vals vs us → sp p vs H Q E →
    codeAny (model P w) A (.call (.ref f) args) (CR CX0 outer P w H s Q E) s
theorem okP {P : Program} {w : World} {K : PySem.W.Frag} {mg : Str → Option Value} {base : Heap} {x qual : Str} {st : Stmt} {f : Addr} {fd : FuncData} {N ps : List Str} {k : Nat} {sp : Addr × Obj → Sp} (F : Fun K x qual st f fd) (S : FnScope N ps (defScope st))
    (len : ∀ p vs H Q E, sp p vs H Q E → vs.length = ps.length)
    (hb : ∀ (cdv : Value) (A : Around) (outer : List Env) (s : Shared) (H : Hp) (vs : List V) (Q : VK) (E : XK) (p : Addr × Obj), RoomH k (A.deeper (envOfC qual (defScope st) s.heap.objs.size f cdv)) → sp p vs H Q E →
      ∃ t, PSs (cxH CX0 P w K mg base N qual (defScope st) f cdv A outer s H E p) (defBody st) t ∧ t { nx := fun _ H' => Q .non H', rt := Q } (L2.start N vs) H) :
    FnP P w K mg base (k + 1) f fd ps sp := by
  obtain ⟨o1, o2, kV, doc, pm, an, cdv, ct, osl, e, lk, hcd⟩ := F.ex
  subst e
  constructor
  case len => exact len
  case run =>
    intro A outer s H args us vs Q E p hr hpin e0 hbd r hsp
    have hl := len _ _ _ _ _ hsp
    have inK : K.In s.heap := e0.mod.kin.keeps fun b o e => (e0.bs b o e).1
    have noLim : s.heap.NoLimit := e0.mod.nolimit.keeps fun b o e => (e0.bs b o e).1
    have kinds : ∀ y ∈ ps.zip us, (defScope st).names.lookup y.1 = some .local ∨ ((defScope st).names.lookup y.1 = some .cell ∧ ((cellsFrom (s.heap.objs.size + 1) (defScope st).names []).lookup y.1).isSome = true) := by
      rintro ⟨n, v⟩ hy
      rcases S.par n (List.of_mem_zip hy).1 with q | q
      · exact .inl q
      · exact .inr ⟨q, PySem.W.cellsFrom_some _ _ _ (.inl q)⟩
    refine codeAny_call_function hr.depth (inK _ _ lk) rfl S.co S.gen rfl (PySem.W.codeRec_of inK hcd) (hbd _ _ _ _ (wpAny_newFunctionEnv_cells S.kind kinds fun env he s1 x => ?_))
    subst he
    refine ⟨noLim.keeps x.toInCall.keep, codeAny_func ?_⟩
    obtain ⟨t, ht, hq⟩ := hb cdv A outer s H vs Q E p (hr.deeper _) hsp
    have I := inv_startH (CX := CX0) (mg := mg) (E := E) S hpin e0 hl r x
    refine wpAny_mono (ht.run [] s1 (L2.start N vs) H _ I hq) (fun fl s' hs => ?_) fun e s' hs => hs
    cases fl with
    | ret u =>
      obtain ⟨v, σ', H', J, rv, q⟩ := hs
      exact ⟨v, H', J.os, J.bare, J.base, J.hok, rv, q⟩
    | next =>
      obtain ⟨σ', H', J, q⟩ := hs
      exact ⟨V.non, H', J.os, J.bare, J.base, J.hok, rfl, q⟩
    | brk => obtain ⟨_, _, _, q⟩ := hs; exact q.elim
    | cont => obtain ⟨_, _, _, q⟩ := hs; exact q.elim
def tCallP (sp : Addr × Obj → Sp) (p : Addr × Obj) (E : XK) (t : TA) : TE := fun σ H Q => t σ H fun vs H1 => sp p vs H1 Q E
theorem pe_callP {X : Cx} {k : Nat} {f : Addr} {fd : FuncData} {ps : List Str} {sp : Addr × Obj → Sp} {E : XK} {x : Str} {q pos : Pos} {e : Expr} {es : List Expr} {t : TA} {p : Addr × Obj} (F : FnP X.prog X.w X.K X.mg X.base k f fd ps sp) (hr : RoomH k X.A) (hp : p ∈ X.pn) (hg : Gl X x)
    (hm : X.mg x = some (.ref f)) (hk : PySem.W.keepIn X.K (.ref f) = true) (hb : Binds X.K fd ps []) (ha : PA X (e :: es) t) (hdb : (x == ("__debug__" : Str)) = false := by decide) (he : starEach (e :: es) X.env = (false, eval e X.env) :: starEach es X.env := by rfl)
    (hpl : (backTo pos (starEach es X.env)).any (·.1) = false := by rfl) : PE X (.Call (.Name x q) (e :: es) [] pos) (tCallP sp p E t) := by
  refine ⟨fun pins s σ H Q I h => wpAny_Call_Name_kw (ld_glob I hg hm ?_ hdb)⟩
  refine PySem.W.callWith_K (h₀ := X.base) I.ok.mod.kin hk (thn (ha.run pos pins s σ H _ I h) fun us s1 ⟨vs, H1, I1, r, hs⟩ => ⟨I1.kIn, ?_⟩) he hpl
  have hl : us.length = ps.length := by rw [← r.length]; exact F.len _ _ _ _ _ hs
  have b := hb s1 us I1.kIn (by rw [List.append_nil]; exact hl)
  rw [List.append_nil] at b
  have P1 := I1.pin p (List.mem_append_left _ hp)
  have hpin : PinOk X.stack H1 s1 p := ⟨P1.1, P1.2.1, fun hm => (List.mem_cons.mp (I1.stkSub p.1 hm)).elim P1.2.2.1 P1.2.2.2.1, P1.2.2.2.2⟩
  refine wpAny_call (codeAny_mono (F.run X.A X.stack s1 H1 ⟨us, []⟩ us vs Q E p hr hpin I1.env0 b r hs) fun r s' hq => ?_)
  cases r with
  | error e => exact False.elim hq
  | ok fl =>
    cases fl with
    | ret u => exact I1.after hq
    | next => exact False.elim hq
    | brk => exact False.elim hq
    | cont => exact False.elim hq
end LL

set_option Elab.async false
set_option linter.all false
set_option maxRecDepth 100000
set_option maxHeartbeats 400000
namespace LL
open PySem PySem.Spec PyProof.Rows L2
variable [KW]
theorem szL_le {k : Nat} : ∀ {ds : List PyData}, (∀ d ∈ ds, sz d ≤ k) → szL ds ≤ k * ds.length
  | [], _ => by rw [szL_nil]; exact Nat.zero_le _
  | d :: ds, h => by
    have := szL_le (ds := ds) (fun x hx => h x (List.mem_cons_of_mem _ hx))
    have := h d List.mem_cons_self
    rw [szL_cons, List.length_cons, Nat.mul_succ]
    omega
theorem depL_le {k : Nat} : ∀ {ds : List PyData}, (∀ d ∈ ds, dep d ≤ k) → depL ds ≤ k
  | [], _ => by rw [depL_nil]; exact Nat.zero_le _
  | d :: ds, h => by
    have := depL_le (ds := ds) (fun x hx => h x (List.mem_cons_of_mem _ hx))
    have := h d List.mem_cons_self
    rw [depL_cons]
    omega
theorem IsDs.setV {M : List Addr} {H : Hp} {v : V} {d : PyData} (x : Is M H d v) : ∀ {ds : List PyData} {vs : List V} (j : Nat), IsDs M H ds vs → IsDs M H (ds.set j d) (vs.set j v)
  | [], vs, j, y => by
    unfold IsDs at y
    subst y
    exact IsDs.nil
  | e :: ds, vs, 0, y => by
    unfold IsDs at y
    obtain ⟨v', r, rfl, h1, h2⟩ := y
    exact IsDs.cons x h2
  | e :: ds, vs, j + 1, y => by
    unfold IsDs at y
    obtain ⟨v', r, rfl, h1, h2⟩ := y
    exact IsDs.cons h1 (IsDs.setV x j h2)
theorem mem_set {α : Type} {P : α → Prop} {d : α} (hd : P d) : ∀ {ds : List α} (j : Nat), (∀ x ∈ ds, P x) → ∀ x ∈ ds.set j d, P x := fun {ds} j h x hx => by
  rcases List.mem_or_eq_of_mem_set hx with h1 | h1
  · exact h x h1
  · rw [h1]; exact hd
/-- a sheet of good rows, a stream beside it -/
structure ShAt (H : Hp) (s sh : Addr) (rs : List V) (ds : List PyData) : Prop where
  str : StrAt [s] H s
  ne : sh ≠ s
  at_ : H sh = some (.lst rs)
  rd : IsDs [s] H ds rs
  len : ds.length ≤ 200
  sm : ∀ d ∈ ds, Small d
theorem ShAt.adv {H H' : Hp} {s sh : Addr} {rs : List V} {ds : List PyData} (x : ShAt H s sh rs ds) (a : Adv [s] H H') (hs : StrAt [s] H' s) : ShAt H' s sh rs ds :=
  ⟨hs, x.ne, a _ _ (by simpa using x.ne) x.at_, x.rd.adv a, x.len, x.sm⟩
theorem ShAt.same {H H' : Hp} {s sh : Addr} {rs : List V} {ds : List PyData} (x : ShAt H s sh rs ds) (a : Adv [] H H') : ShAt H' s sh rs ds := x.adv (Adv.nil a) (x.str.same a)
theorem ShAt.is {H : Hp} {s sh : Addr} {rs : List V} {ds : List PyData} (x : ShAt H s sh rs ds) : Is [s] H (.list ds) (.ref sh) := Is.lst x.at_ (by simpa using x.ne) x.rd
theorem sm_sz {ds : List PyData} (h : ∀ d ∈ ds, Small d) (hl : ds.length ≤ 200) : szL ds ≤ 800 := by
  have := szL_le (k := 4) (fun d hd => (h d hd).1)
  omega
theorem sm_dep {ds : List PyData} (h : ∀ d ∈ ds, Small d) : depL ds ≤ 1 := depL_le fun d hd => (h d hd).2.1
/-- a copy that is bent -/
structure BtAt (H : Hp) (s bt : Addr) (rs : List V) (ds : List PyData) : Prop where
  str : StrAt [bt, s] H s
  ne : bt ≠ s
  at_ : H bt = some (.lst rs)
  rd : IsDs [bt, s] H ds rs
  len : ds.length ≤ 300
  sm : ∀ d ∈ ds, sz d ≤ 10 ∧ dep d ≤ 3
theorem BtAt.al {H : Hp} {s bt : Addr} {rs : List V} {ds : List PyData} (x : BtAt H s bt rs ds) : ∀ b ∈ [bt, s], H b ≠ none := fun b hb => by
  simp at hb
  rcases hb with h | h
  · rw [h, x.at_]; simp
  · rw [h]; exact x.str.here
theorem BtAt.adv {H H' : Hp} {s bt : Addr} {rs : List V} {ds : List PyData} (x : BtAt H s bt rs ds) (a : Adv [s] H H') (hs : StrAt [bt, s] H' s) : BtAt H' s bt rs ds :=
  ⟨hs, x.ne, a _ _ (by simpa using x.ne) x.at_, x.rd.adv (a.more (by simp)), x.len, x.sm⟩
theorem BtAt.same {H H' : Hp} {s bt : Addr} {rs : List V} {ds : List PyData} (x : BtAt H s bt rs ds) (a : Adv [] H H') : BtAt H' s bt rs ds := x.adv (Adv.nil a) (x.str.same a)
theorem BtAt.is {H : Hp} {s bt : Addr} {rs : List V} {ds : List PyData} (x : BtAt H s bt rs ds) : Is [] H (.list ds) (.ref bt) := Is.lst x.at_ (by simp) (x.rd.less (by simp))
theorem BtAt.szB {H : Hp} {s bt : Addr} {rs : List V} {ds : List PyData} (x : BtAt H s bt rs ds) : sz (.list ds) ≤ 500000 := by
  have := szL_le (k := 10) (fun d hd => (x.sm d hd).1)
  have := x.len
  rw [sz_lst]
  omega
theorem BtAt.depB {H : Hp} {s bt : Addr} {rs : List V} {ds : List PyData} (x : BtAt H s bt rs ds) : dep (.list ds) ≤ 8 := by
  have := depL_le (k := 3) (fun d hd => (x.sm d hd).2)
  rw [dep_lst]
  omega
theorem BtAt.put {H : Hp} {s bt : Addr} {rs : List V} {ds : List PyData} (x : BtAt H s bt rs ds) {v : V} {d : PyData} (j : Nat) (hv : Is [bt, s] H d v) (h1 : sz d ≤ 10) (h2 : dep d ≤ 3) : BtAt (upd H bt (.lst (rs.set j v))) s bt (rs.set j v) (ds.set j d) := by
  have a : Adv [bt] H (upd H bt (.lst (rs.set j v))) := Adv.set (by simp)
  have a2 : Adv [bt, s] H (upd H bt (.lst (rs.set j v))) := a.more (by simp)
  exact ⟨x.str.adv a (by simpa using x.ne.symm) (by simp), x.ne, upd_same, (IsDs.setV hv j x.rd).adv a2, by rw [List.length_set]; exact x.len, mem_set (P := fun d => sz d ≤ 10 ∧ dep d ≤ 3) ⟨h1, h2⟩ j x.sm⟩
theorem BtAt.push {H : Hp} {s bt : Addr} {rs : List V} {ds : List PyData} (x : BtAt H s bt rs ds) {v : V} {d : PyData} (hv : Is [bt, s] H d v) (h1 : sz d ≤ 10) (h2 : dep d ≤ 3) (hl : ds.length ≤ 200) : BtAt (upd H bt (.lst (rs ++ [v]))) s bt (rs ++ [v]) (ds ++ [d]) := by
  have a : Adv [bt] H (upd H bt (.lst (rs ++ [v]))) := Adv.set (by simp)
  have a2 : Adv [bt, s] H (upd H bt (.lst (rs ++ [v]))) := a.more (by simp)
  refine ⟨x.str.adv a (by simpa using x.ne.symm) (by simp), x.ne, upd_same, (x.rd.app (.cons hv .nil)).adv a2, by rw [List.length_append, List.length_singleton]; omega, fun y hy => ?_⟩
  rcases List.mem_append.mp hy with h | h
  · exact x.sm y h
  · rw [List.mem_singleton.mp h]; exact ⟨h1, h2⟩
theorem ShAt.bend {H : Hp} {s sh bt : Addr} {rs : List V} {ds : List PyData} (x : ShAt H s sh rs ds) (n : H bt = none) : BtAt (upd H bt (.lst rs)) s bt rs ds := by
  have ns : s ≠ bt := fun z => x.str.here (by rw [z]; exact n)
  have a : Adv [] H (upd H bt (.lst rs)) := Adv.new n
  exact ⟨(x.str.fresh n).same a, ns.symm, upd_same, (x.rd.fresh n).adv (Adv.nil a), by have := x.len; omega, fun d hd => ⟨by have := (x.sm d hd).1; omega, by have := (x.sm d hd).2.1; omega⟩⟩
theorem BtAt.sheet {H0 H : Hp} {s sh bt : Addr} {rs rs' : List V} {ds ds' : List PyData} (x : BtAt H s bt rs' ds') (y : ShAt H0 s sh rs ds) (n : H0 bt = none) (a : Adv [bt, s] H0 H) : ShAt H s sh rs ds :=
  y.adv (a.drop n) (x.str.less (by simp))
end LL

set_option Elab.async false
set_option linter.all false
set_option maxRecDepth 100000
set_option maxHeartbeats 400000
/-! LNd: the nodes of a right sheet by themselves -/
namespace LL
open PySem PySem.Spec PyProof.Rows L2
variable [KW]
inductive Op3
  | and | or | imp
  deriving DecidableEq
def Op3.str : Op3 → Str
  | .and => "and"
  | .or => "or"
  | .imp => "if"
inductive Nd
  | no | letter (i : Nat) | bin (o : Op3) (j k : Nat) | box (j : Nat)
  deriving DecidableEq
def Nd.keys : Nd → List Key
  | .no => [.inr "no"]
  | .letter i => [.inr "letter", .inl i]
  | .bin o j k => [.inr o.str, .inl j, .inl k]
  | .box j => [.inr "box", .inl j]
def Nd.data (n : Nd) : PyData := .tuple (n.keys.map keyDt)
def Nd.ok (boxed : Bool) (at_ : Nat) : Nd → Bool
  | .no => true
  | .letter i => decide (i ≤ 7)
  | .bin _ j k => decide (j < at_) && decide (k < at_)
  | .box j => boxed && decide (j < at_)
theorem op_inj {o p : Op3} (h : o.str = p.str) : o = p := by
  cases o <;> cases p <;> first | rfl | exact absurd h (by decide)
theorem op_no (o : Op3) : o.str ≠ "no" ∧ o.str ≠ "letter" ∧ o.str ≠ "box" := by cases o <;> decide
theorem keys_inj {m n : Nd} (h : m.keys = n.keys) : m = n := by
  cases m <;> cases n <;> simp only [Nd.keys, List.cons.injEq, Sum.inr.injEq, Sum.inl.injEq, and_true, reduceCtorEq, and_false] at h
  case no.no => rfl
  case letter.letter i j =>
    have := h.2
    congr 1
    omega
  case letter.box i j => exact absurd h.1 (by decide)
  case bin.bin o j k o' j' k' =>
    obtain ⟨h1, h2, h3⟩ := h
    have e1 := op_inj h1
    have e2 : j = j' := by omega
    have e3 : k = k' := by omega
    subst e1; subst e2; subst e3; rfl
  case box.letter i j => exact absurd h.1 (by decide)
  case box.box i j =>
    have := h.2
    congr 1
    omega
theorem Nd.keysD (n : Nd) : LL.keysD n.data = n.keys := by
  cases n <;> rfl
theorem num_nat {lo hi : Int} {p : PyData} (h : isNum lo hi p = true) (h0 : 0 ≤ lo) : ∃ i : Nat, p = .int i ∧ lo ≤ i ∧ (i : Int) ≤ hi := by
  cases p with
  | int i =>
    simp only [isNum, Bool.and_eq_true, decide_eq_true_eq] at h
    exact ⟨i.toNat, by rw [Int.toNat_of_nonneg (by omega)], by omega, by omega⟩
  | _ => cases h
/-- what the check of a node says -/
theorem nodeB_nd {boxed : Bool} {at_ : Nat} {d : PyData} (h : nodeB boxed at_ d = true) : ∃ n : Nd, d = n.data ∧ n.ok boxed at_ = true := by
  unfold nodeB at h
  split at h
  case h_2 => cases h
  rename_i w ps
  split at h
  case isFalse => cases h
  rename_i hn
  have one : ∀ {lo hi : Int} {q : List PyData}, q.length = 1 → 0 ≤ lo → q.all (isNum lo hi) = true → ∃ i : Nat, q = [.int i] ∧ lo ≤ i ∧ (i : Int) ≤ hi := fun {lo hi q} hl h0 ha => by
    match q, hl with
    | [p], _ =>
      simp only [List.all_cons, List.all_nil, Bool.and_true] at ha
      obtain ⟨i, rfl, h1, h2⟩ := num_nat ha h0
      exact ⟨i, rfl, h1, h2⟩
  have two : ∀ {lo hi : Int} {q : List PyData}, q.length = 2 → 0 ≤ lo → q.all (isNum lo hi) = true → ∃ i k : Nat, q = [.int i, .int k] ∧ (i : Int) ≤ hi ∧ (k : Int) ≤ hi := fun {lo hi q} hl h0 ha => by
    match q, hl with
    | [p, r], _ =>
      simp only [List.all_cons, List.all_nil, Bool.and_true, Bool.and_eq_true] at ha
      obtain ⟨i, rfl, h1, h2⟩ := num_nat ha.1 h0
      obtain ⟨k, rfl, h3, h4⟩ := num_nat ha.2 h0
      exact ⟨i, k, rfl, h2, h4⟩
  unfold nItems at hn
  by_cases e1 : w = "letter"
  · subst e1
    rw [if_pos rfl] at hn h
    have hl : ps.length = 1 := by
      have := Option.some.inj hn
      omega
    obtain ⟨i, rfl, h1, h2⟩ := one hl (by omega) h
    exact ⟨.letter i, rfl, by simp only [Nd.ok, decide_eq_true_eq]; omega⟩
  rw [if_neg e1] at hn h
  by_cases e2 : w = "no"
  · subst e2
    rw [if_pos rfl] at hn
    have hl : ps = [] := by
      have := Option.some.inj hn
      exact List.length_eq_zero_iff.mp (by omega)
    subst hl
    exact ⟨.no, rfl, rfl⟩
  rw [if_neg e2] at hn
  have bin : ∀ o : Op3, w = o.str → ps.length = 2 → (if (w = "box" && !boxed) = true then false else ps.all (isNum 0 ((at_ : Int) - 1))) = true → ∃ n : Nd, PyData.tuple (.str w :: ps) = n.data ∧ n.ok boxed at_ = true := fun o ew hl hh => by
    have nb : ¬ (w = "box" && !boxed) = true := by
      intro z
      simp only [Bool.and_eq_true, decide_eq_true_eq] at z
      exact (op_no o).2.2 (by rw [← ew]; exact z.1)
    rw [if_neg nb] at hh
    obtain ⟨i, k, rfl, h2, h3⟩ := two hl (by omega) hh
    subst ew
    exact ⟨.bin o i k, rfl, by simp only [Nd.ok, Bool.and_eq_true, decide_eq_true_eq]; omega⟩
  by_cases e3 : w = "and"
  · subst e3
    rw [if_pos rfl] at hn
    exact bin .and rfl (by have := Option.some.inj hn; omega) h
  rw [if_neg e3] at hn
  by_cases e4 : w = "or"
  · subst e4
    rw [if_pos rfl] at hn
    exact bin .or rfl (by have := Option.some.inj hn; omega) h
  rw [if_neg e4] at hn
  by_cases e5 : w = "if"
  · subst e5
    rw [if_pos rfl] at hn
    exact bin .imp rfl (by have := Option.some.inj hn; omega) h
  rw [if_neg e5] at hn
  by_cases e6 : w = "box"
  · subst e6
    rw [if_pos rfl] at hn
    have hl : ps.length = 1 := by
      have := Option.some.inj hn
      omega
    cases boxed with
    | false => exact absurd h (by simp)
    | true =>
      have h' : ps.all (isNum 0 ((at_ : Int) - 1)) = true := by simpa using h
      obtain ⟨i, rfl, h1, h2⟩ := one hl (by omega) h'
      exact ⟨.box i, rfl, by simp only [Nd.ok, Bool.true_and, decide_eq_true_eq]; omega⟩
  rw [if_neg e6] at hn
  cases hn
/-- a right sheet -/
def okSheet (boxed : Bool) (ns : List Nd) : Prop := ns.Nodup ∧ ∀ (i : Nat) (n : Nd), ns[i]? = some n → n.ok boxed i = true
/-- the row of a node, a new one at the end if there is none -/
def rowF (ns : List Nd) (n : Nd) : Nat × List Nd := if n ∈ ns then (ns.idxOf n, ns) else (ns.length, ns ++ [n])
theorem rowF_lt (ns : List Nd) (n : Nd) : (rowF ns n).1 < (rowF ns n).2.length := by
  unfold rowF
  split
  · exact List.idxOf_lt_length_of_mem (by assumption)
  · simp
theorem rowF_pre (ns : List Nd) (n : Nd) : ns <+: (rowF ns n).2 := by
  unfold rowF
  split
  · exact List.prefix_refl _
  · exact List.prefix_append _ _
theorem rowF_at (ns : List Nd) (n : Nd) : (rowF ns n).2[(rowF ns n).1]? = some n := by
  unfold rowF
  split
  · rename_i h
    have hl := List.idxOf_lt_length_of_mem h
    rw [List.getElem?_eq_getElem hl, List.getElem_idxOf hl]
  · simp
theorem rowF_ok {boxed : Bool} {ns : List Nd} {n : Nd} (h : okSheet boxed ns) (hn : n.ok boxed ns.length = true) : okSheet boxed (rowF ns n).2 := by
  unfold rowF
  split
  · exact h
  · rename_i hm
    refine ⟨?_, fun i m hi => ?_⟩
    · rw [List.nodup_append]
      refine ⟨h.1, by simp, fun a ha b hb => ?_⟩
      rw [List.mem_singleton.mp hb]
      exact fun e => hm (e ▸ ha)
    · rcases Nat.lt_or_ge i ns.length with hl | hl
      · rw [List.getElem?_append_left hl] at hi
        exact h.2 i m hi
      · have e : i = ns.length := by
          have := (List.getElem?_eq_some_iff.mp hi).1
          simp at this
          omega
        subst e
        simp at hi
        subst hi
        exact hn
theorem Nd.ok_mono {boxed : Bool} {i j : Nat} {n : Nd} (h : n.ok boxed i = true) (hij : i ≤ j) : n.ok boxed j = true := by
  cases n <;> simp only [Nd.ok, Bool.and_eq_true, decide_eq_true_eq] at h ⊢ <;> first | exact h | omega | (exact ⟨h.1, by omega⟩)
/-- the row that denies row r -/
def denyF (ns : List Nd) (r : Nat) : Nat × List Nd := rowF (rowF ns .no).2 (.bin .imp r (rowF ns .no).1)
theorem memK_iff {k : List Key} {l : List (List Key)} : memK k l = true ↔ k ∈ l := by
  unfold memK
  rw [List.any_eq_true]
  constructor
  · rintro ⟨x, hx, e⟩
    rw [← of_decide_eq_true e]; exact hx
  · intro h
    exact ⟨k, h, by simp⟩
theorem wrongF_none {most : Int} {boxed : Bool} : ∀ {ds : List PyData} {pre : List Nd}, okSheet boxed pre → wrongF most boxed pre.length (pre.map Nd.keys) ds = none →
    ∃ ns : List Nd, ds = ns.map Nd.data ∧ okSheet boxed (pre ++ ns) ∧ (ns = [] ∨ ((pre.length + ns.length : Nat) : Int) ≤ most)
  | [], pre, hp, _ => ⟨[], rfl, by rw [List.append_nil]; exact hp, .inl rfl⟩
  | d :: ds, pre, hp, h => by
    unfold wrongF at h
    split at h
    case isFalse => cases h
    rename_i hm
    split at h
    case isFalse => cases h
    rename_i hb
    obtain ⟨n, rfl, hn⟩ := nodeB_nd hb
    split at h
    case isTrue => cases h
    rename_i hk
    rw [Nd.keysD] at hk h
    have hnm : n ∉ pre := fun z => hk (memK_iff.mpr (List.mem_map_of_mem z))
    have hp2 : okSheet boxed (pre ++ [n]) := by
      have := rowF_ok hp hn
      unfold rowF at this
      rw [if_neg hnm] at this
      exact this
    have h2 : wrongF most boxed (pre ++ [n]).length ((pre ++ [n]).map Nd.keys) ds = none := by
      rw [List.map_append, List.length_append]
      exact h
    obtain ⟨ns, e, h3, h4⟩ := wrongF_none hp2 h2
    refine ⟨n :: ns, by rw [List.map_cons, ← e], by rw [List.append_assoc] at h3; exact h3, .inr ?_⟩
    rcases h4 with h4 | h4
    · subst h4
      simp only [List.length_cons, List.length_nil]
      omega
    · rw [List.length_append] at h4
      simp only [List.length_cons, List.length_nil] at h4 ⊢
      omega
theorem wrongD_none {most : Int} {boxed : Bool} {d : PyData} (h0 : 0 ≤ most) (h : wrongD most boxed d = none) : ∃ ns : List Nd, d = .list (ns.map Nd.data) ∧ okSheet boxed ns ∧ (ns.length : Int) ≤ most := by
  cases d with
  | list ds =>
    obtain ⟨ns, e, h1, h2⟩ := wrongF_none (pre := []) ⟨List.nodup_nil, fun i n hi => by simp at hi⟩ h
    refine ⟨ns, by rw [e], h1, ?_⟩
    rcases h2 with h2 | h2
    · rw [h2]; exact h0
    · simpa using h2
  | _ => cases h
end LL

set_option Elab.async false
set_option linter.all false
set_option maxRecDepth 100000
set_option maxHeartbeats 400000
/-! LRead: the rows below rows; the three readings of rows, in plain words -/
namespace LL
open PySem PySem.Spec PyProof.Rows L2
variable [KW]
def Nd.parts : Nd → List Nat
  | .no => []
  | .letter _ => []
  | .bin _ j k => [j, k]
  | .box j => [j]
theorem parts_lt {boxed : Bool} {i : Nat} {n : Nd} (h : n.ok boxed i = true) : ∀ p ∈ n.parts, p < i := by
  cases n <;> simp [Nd.ok, Nd.parts] at h ⊢
  · exact h
  · exact h.2
def markP (m : Nat → Bool) (ps : List Nat) : Nat → Bool := fun x => m x || ps.contains x
def markDown (ns : List Nd) : Nat → (Nat → Bool) → Nat → Bool
  | 0, m => m
  | k + 1, m => markDown ns k (if m k = true then markP m ((ns[k]?.getD .no).parts) else m)
theorem markP_keep {m : Nat → Bool} {ps : List Nat} {x : Nat} (h : m x = true) : markP m ps x = true := by
  unfold markP; rw [h]; rfl
theorem markP_new {m : Nat → Bool} {ps : List Nat} {x : Nat} (h : x ∈ ps) : markP m ps x = true := by
  unfold markP
  rw [show ps.contains x = true from by simpa using h, Bool.or_true]
theorem markDown_keep (ns : List Nd) : ∀ (k : Nat) (m : Nat → Bool) (x : Nat), m x = true → markDown ns k m x = true
  | 0, m, x, h => h
  | k + 1, m, x, h => by
    unfold markDown
    refine markDown_keep ns k _ x ?_
    split
    · exact markP_keep h
    · exact h
/-- what stands at k and above isn't changed by the walk from k down -/
theorem markDown_above {boxed : Bool} {ns : List Nd} (ok : okSheet boxed ns) : ∀ (k : Nat) (m : Nat → Bool) (x : Nat), k ≤ ns.length → k ≤ x + 1 → markDown ns k m x = m x
  | 0, m, x, _, _ => rfl
  | k + 1, m, x, hk, hx => by
    unfold markDown
    rw [markDown_above ok k _ x (by omega) (by omega)]
    split
    · have hn : ns[k]? = some ns[k] := List.getElem?_eq_getElem (by omega)
      unfold markP
      rw [hn]
      have hnot : (ns[k] : Nd).parts.contains x = false := by
        refine Bool.eq_false_iff.mpr fun z => ?_
        have hm : x ∈ (ns[k] : Nd).parts := by simpa using z
        have := parts_lt (ok.2 k _ hn) x hm
        omega
      show (m x || (ns[k] : Nd).parts.contains x) = m x
      rw [hnot, Bool.or_false]
    · rfl
theorem markDown_parts {boxed : Bool} {ns : List Nd} (ok : okSheet boxed ns) : ∀ (k : Nat) (m : Nat → Bool) (i : Nat) (n : Nd), k ≤ ns.length → i < k → ns[i]? = some n → markDown ns k m i = true → ∀ p ∈ n.parts, markDown ns k m p = true
  | 0, m, i, n, _, hi, _, _ => by omega
  | k + 1, m, i, n, hk, hi, hn, h => by
    intro p hp
    unfold markDown at h ⊢
    rcases Nat.lt_or_ge i k with hlt | hge
    · exact markDown_parts ok k _ i n (by omega) hlt hn h p hp
    · have e : i = k := by omega
      subst e
      rw [markDown_above ok i _ i (by omega) (by omega)] at h
      have hmi : m i = true := by
        cases q : m i with
        | true => rfl
        | false =>
          rw [q, if_neg Bool.false_ne_true, q] at h
          exact h
      rw [if_pos hmi]
      refine markDown_keep ns i _ p ?_
      rw [hn]
      exact markP_new hp
def marked (ns : List Nd) (rows : List Nat) : Nat → Bool := markDown ns ns.length (markP (fun _ => false) rows)
def belowF (ns : List Nd) (rows : List Nat) : List Nat := (List.range ns.length).filter (marked ns rows)
theorem below_mem {ns : List Nd} {rows : List Nat} {i : Nat} : i ∈ belowF ns rows ↔ i < ns.length ∧ marked ns rows i = true := by
  unfold belowF
  rw [List.mem_filter, List.mem_range]
theorem below_parts {boxed : Bool} {ns : List Nd} {rows : List Nat} (ok : okSheet boxed ns) {i : Nat} {n : Nd} (h : i ∈ belowF ns rows) (hn : ns[i]? = some n) : ∀ p ∈ n.parts, p ∈ belowF ns rows ∧ p < i := fun p hp => by
  obtain ⟨h1, h2⟩ := below_mem.mp h
  have hl := parts_lt (ok.2 i n hn) p hp
  exact ⟨below_mem.mpr ⟨by omega, markDown_parts ok ns.length _ i n (Nat.le_refl _) h1 hn h2 p hp⟩, hl⟩
theorem below_row {ns : List Nd} {rows : List Nat} {r : Nat} (h : r ∈ rows) (hl : r < ns.length) : r ∈ belowF ns rows :=
  below_mem.mpr ⟨hl, markDown_keep ns _ _ _ (markP_new h)⟩
/-! ### the readings -/
inductive W3
  | neg | box | dou
  deriving DecidableEq
def W3.str : W3 → Str
  | .neg => "negative"
  | .box => "boxed"
  | .dou => "doubled"
/-- the node with its parts' new rows -/
def Nd.moved (new : Nat → Nat) : Nd → Nd
  | .bin o j k => .bin o (new j) (new k)
  | .box j => .box (new j)
  | n => n
def stepF (w : W3) (ns : List Nd) (at_ : Nat) (n : Nd) (new : Nat → Nat) : Nat × List Nd :=
  match w, n with
  | _, .no => (at_, ns)
  | .dou, .letter _ => (at_, ns)
  | .neg, .letter _ => denyF (denyF ns at_).2 (denyF ns at_).1
  | .box, .letter _ => rowF ns (.box at_)
  | .neg, .bin .or j k =>
    let a := denyF ns (new j)
    let b := denyF a.2 (new k)
    let c := rowF b.2 (.bin .and a.1 b.1)
    denyF c.2 c.1
  | .box, .bin .imp j k =>
    let a := rowF ns (.bin .imp (new j) (new k))
    rowF a.2 (.box a.1)
  | .dou, .box j =>
    let a := rowF ns (.box (new j))
    rowF a.2 (.bin .and (new j) a.1)
  | _, n => rowF ns (n.moved new)
/-- the rows l, one by one: the grown sheet and what each has become -/
def readF (w : W3) (old : List Nd) : List Nat → List Nd → (Nat → Nat) → List Nd × (Nat → Nat)
  | [], ns, new => (ns, new)
  | i :: l, ns, new =>
    let a := stepF w ns i (old[i]?.getD .no) new
    readF w old l a.2 (fun x => if x = i then a.1 else new x)
end LL

set_option Elab.async false
set_option linter.all false
set_option maxRecDepth 100000
set_option maxHeartbeats 400000
/-! LDx: dicts whose keys are tuples, tracked ones or ones of the written part -/
namespace LL
open PySem PySem.Spec PyProof.Rows L2
variable [KW]
abbrev Ent := List Key × Addr × V
abbrev entKV (p : Ent) : List Key × V := (p.1, p.2.2)
def EntR (p : Ent) (q : List Key × Addr × Value) : Prop := p.1 = q.1 ∧ p.2.1 = q.2.1 ∧ RelV p.2.2 q.2.2
def dxOk (T : Addr) (kas : List Ent) (h : Heap) : Prop := (T == sysModules) = false ∧ kas.length ≤ sizeLine ∧ ∃ xs : List (List Key × Addr × Value), Paired EntR kas xs ∧
  ∃ o es ep, h.get? T = some o ∧ o.ExactDict ∧ o.data = .dict es ep ∧ es.toList = xs.map (fun x => ⟨KW.hs x.1, .ref x.2.1, x.2.2⟩) ∧ (xs.map (·.1)).Nodup
def dxo (T : Addr) (kas : List Ent) : HO := .ext (dxOk T kas)
def putX (kas : List Ent) (k : List Key) (b : Addr) (v : V) : List Ent := if (kas.any fun p => decide (p.1 = k)) = true then kas.map (fun p => if p.1 = k then (p.1, p.2.1, v) else p) else kas ++ [(k, b, v)]
theorem dx_val {kas : List Ent} {xs : List (List Key × Addr × Value)} (r : Paired EntR kas xs) (k : List Key) : RelO (valV (kas.map entKV) k) ((atKey xs k).map (·.2)) := by
  induction r with
  | nil => exact True.intro
  | @cons p q ps qs h t ih =>
    obtain ⟨h1, _, h2⟩ := h
    rw [List.map_cons]
    by_cases e : p.1 = k
    · have e' : q.1 = k := h1.symm.trans e
      have b : atKey (q :: qs) k = some q.2 := by simp [atKey, List.find?_cons, e']
      rw [valV_pos (p := entKV p) e, b]; exact h2
    · have e' : ¬ q.1 = k := fun z => e (h1.trans z)
      have b : atKey (q :: qs) k = atKey qs k := by simp [atKey, List.find?_cons, e']
      rw [valV_neg (p := entKV p) e, b]; exact ih
theorem dx_any {kas : List Ent} {xs : List (List Key × Addr × Value)} (r : Paired EntR kas xs) (k : List Key) : (kas.any fun p => decide (p.1 = k)) = (atKey xs k).isSome := by
  induction r with
  | nil => rfl
  | @cons p q ps qs h t ih =>
    rw [List.any_cons, ih]
    by_cases e : p.1 = k
    · have e' : q.1 = k := h.1.symm.trans e
      have b : atKey (q :: qs) k = some q.2 := by simp [atKey, List.find?_cons, e']
      rw [b, decide_eq_true e]; rfl
    · have e' : ¬ q.1 = k := fun z => e (h.1.trans z)
      have b : atKey (q :: qs) k = atKey qs k := by simp [atKey, List.find?_cons, e']
      rw [b, decide_eq_false e, Bool.false_or]
theorem dx_put {kas : List Ent} {xs : List (List Key × Addr × Value)} (r : Paired EntR kas xs) (k : List Key) (b : Addr) {v : V} {u : Value} (rv : RelV v u) : Paired EntR (putX kas k b v) (storedH xs k b u) := by
  have repl : ∀ {l : List Ent} {m : List (List Key × Addr × Value)}, Paired EntR l m → Paired EntR (l.map fun p => if p.1 = k then (p.1, p.2.1, v) else p) (m.map (putAt k u)) := by
    intro l m q
    induction q with
    | nil => exact .nil
    | @cons p q ps qs h t ih =>
      rw [List.map_cons, List.map_cons]
      refine .cons ?_ ih
      obtain ⟨h1, h2, h3⟩ := h
      unfold putAt
      by_cases e : p.1 = k
      · rw [if_pos e, if_pos (h1.symm.trans e)]; exact ⟨h1, h2, rv⟩
      · rw [if_neg e, if_neg (fun z => e (h1.trans z))]; exact ⟨h1, h2, h3⟩
  unfold putX storedH
  rw [dx_any r k]
  by_cases q : (atKey xs k).isSome = true
  · rw [if_pos q, if_pos q]; exact repl r
  · rw [if_neg q, if_neg q]; exact Paired.snoc r ⟨rfl, rfl, rv⟩
/-- the keys' tuples -/
def KeysAt (K : PySem.W.Frag) (H : Hp) (kas : List Ent) : Prop := ∀ p ∈ kas, SqT K H p.2.1 (p.1.map kV)
/-- what a dict holds at a key -/
def DGX (K : PySem.W.Frag) (H : Hp) (a : Addr) (y : V) (r : Option V) : Prop :=
  ∃ kas k b, H a = some (dxo a kas) ∧ KeysAt K H kas ∧ y = .ref b ∧ SqT K H b (k.map kV) ∧ r = valV (kas.map entKV) k
def DPX (K : PySem.W.Frag) (H : Hp) (a : Addr) (y v : V) (H' : Hp) : Prop :=
  ∃ kas k b, H a = some (dxo a kas) ∧ KeysAt K H kas ∧ y = .ref b ∧ SqT K H b (k.map kV) ∧ kas.length < sizeLine ∧ H' = upd H a (dxo a (putX kas k b v))
section
variable {X : Cx} {w : World} {pins : List (Addr × Obj)} {σ : L2.St} {H : Hp} {s : Shared} {a b : Addr} {y v : V} {u r : Value} {o : Option V} {A : Around} {E : Value → Shared → Prop} {ks : List Key} {kas : List Ent}
theorem key_sq (I : Inv X pins σ H s) (h : SqT X.K H b (ks.map kV)) : (tupleKind (mixKind X.prog X.w)).is s.heap ks b := by
  obtain ⟨its, r, ⟨o, h1, h2, n, h3⟩, _⟩ := I.tuple h
  exact ⟨o, its.toArray, n, h1, h2, h3, by simpa using items_are r⟩
theorem dx_of (W : KWOk X.K X.w) (I : Inv X pins σ H s) (e : H a = some (dxo a kas)) (hk : KeysAt X.K H kas) : (a == sysModules) = false ∧ kas.length ≤ sizeLine ∧
    ∃ xs, Paired EntR kas xs ∧ s.heap.DictOfH (tupleKind (mixKind X.prog X.w)) a xs := by
  obtain ⟨⟨y, z, xs, r, o, es, ep, h1, h2, h3, h4, h5⟩, _, _⟩ := (show ObjOk X.prog X.w H s.heap a (dxo a kas) from I.hok a _ e)
  refine ⟨y, z, xs, r, o, es, ep, h1, h2, h3, ?_, fun x hx => ?_, h5⟩
  · rw [h4]
    refine List.map_congr_left fun x _ => ?_
    unfold entryOfKey
    rw [W.hs X.prog x.1]
  · have all : ∀ {l : List Ent} {m : List (List Key × Addr × Value)}, Paired EntR l m → (∀ p ∈ l, SqT X.K H p.2.1 (p.1.map kV)) → ∀ x ∈ m, (tupleKind (mixKind X.prog X.w)).is s.heap x.1 x.2.1 := by
      intro l m q
      induction q with
      | nil => intro _ x hx; exact nomatch hx
      | @cons p q ps qs hq t ih =>
        intro hp x hx
        rcases List.mem_cons.mp hx with e | hx
        · subst e
          rw [← hq.1, ← hq.2.1]
          exact key_sq I (hp p List.mem_cons_self)
        · exact ih (fun p hp' => hp p (List.mem_cons_of_mem _ hp')) x hx
    exact all r hk x hx
theorem dx_new {h : Heap} {kas : List Ent} {xs : List (List Key × Addr × Value)} {P : Program} {w : World} {H : Hp} (W : ∀ (ks : List Key), KW.hs ks = (tupleKind (mixKind P w)).hash ks) (y : (a == sysModules) = false) (z : kas.length ≤ sizeLine) (r : Paired EntR kas xs) (d : h.DictOfH (tupleKind (mixKind P w)) a xs) :
    ObjOk P w H h a (dxo a kas) := by
  obtain ⟨o, es, ep, h1, h2, h3, h4, _, h5⟩ := d
  refine ⟨⟨y, z, xs, r, o, es, ep, h1, h2, h3, ?_, h5⟩, ⟨o, h1⟩, fun k1 k2 p keep => ?_⟩
  · rw [h4]
    refine List.map_congr_left fun x _ => ?_
    unfold entryOfKey
    rw [W x.1]
  · obtain ⟨y, z, xs, r, o, es, ep, h1, h2⟩ := p
    exact ⟨y, z, xs, r, o, es, ep, keep _ h1, h2⟩
theorem dx_getItem {Q : Value → Shared → Prop} (W : KWOk X.K X.w) (hu : A.units + 1 < cLine) (I : Inv X pins σ H s) (g : DGX X.K H a y (some v)) (ry : RelV y u) (h : ∀ w' s', Inv X pins σ H s' → RelV v w' → Q w' s') :
    wpAny (model X.prog X.w) A (getItem (.ref a) u) Q E s := by
  obtain ⟨kas, k, b, e, hk, ey, eb, l⟩ := g
  subst ey
  cases (show u = Value.ref b from ry)
  obtain ⟨hd, z, xs, rel, dd⟩ := dx_of W I e hk
  obtain ⟨w', hw, rw'⟩ := RelO.some_of (v := v) (o := (atKey xs k).map (·.2)) (by rw [l]; exact dx_val rel k)
  obtain ⟨p, hp, hp2⟩ := Option.map_eq_some_iff.mp hw
  refine wpAny_getItem_heap (tupleKind_room_in1 hu) (key_sq I eb) dd hp ?_
  rw [hp2]
  exact h w' _ (I.tok _) rw'
theorem dx_in {Q : Value → Shared → Prop} (W : KWOk X.K X.w) (hu : A.units + 1 < cLine) (I : Inv X pins σ H s) (g : DGX X.K H a y o) (ry : RelV y u) (h : ∀ s', Inv X pins σ H s' → Q (.bool o.isSome) s') :
    wpAny (model X.prog X.w) A (compareOp .In u (.ref a)) Q E s := by
  obtain ⟨kas, k, b, e, hk, ey, eb, l⟩ := g
  subst ey
  cases (show u = Value.ref b from ry)
  obtain ⟨hd, z, xs, rel, dd⟩ := dx_of W I e hk
  refine wpAny_in_heap (tupleKind_room_in1 hu) (key_sq I eb) hd dd ?_
  have q := (dx_val rel k).isSome_eq
  rw [Option.isSome_map] at q
  rw [← q, ← l]
  exact h _ (I.tok _)
theorem dx_notIn {Q : Value → Shared → Prop} (W : KWOk X.K X.w) (hu : A.units + 1 < cLine) (I : Inv X pins σ H s) (g : DGX X.K H a y o) (ry : RelV y u) (h : ∀ s', Inv X pins σ H s' → Q (.bool (!o.isSome)) s') :
    wpAny (model X.prog X.w) A (compareOp .NotIn u (.ref a)) Q E s := by
  obtain ⟨kas, k, b, e, hk, ey, eb, l⟩ := g
  subst ey
  cases (show u = Value.ref b from ry)
  obtain ⟨hd, z, xs, rel, dd⟩ := dx_of W I e hk
  refine wpAny_notIn_heap (tupleKind_room_in1 hu) (key_sq I eb) hd dd ?_
  have q := (dx_val rel k).isSome_eq
  rw [Option.isSome_map] at q
  rw [← q, ← l]
  exact h _ (I.tok _)
theorem putX_len (kas : List Ent) (k : List Key) (b : Addr) (v : V) : (putX kas k b v).length ≤ kas.length + 1 := by
  unfold putX
  split <;> simp
theorem dx_setItem {H' : Hp} {Q : Unit → Shared → Prop} (W : KWOk X.K X.w) (hu : A.units + 1 < cLine) (I : Inv X pins σ H s) (g : DPX X.K H a y v H') (ry : RelV y u) (rv : RelV v r) (h : ∀ s', Inv X pins σ H' s' → Q () s') :
    wpAny (model X.prog X.w) A (setItem (.ref a) u r) Q E s := by
  obtain ⟨kas, k, b, e, hk, ey, eb, l, eH⟩ := g
  subst ey eH
  cases (show u = Value.ref b from ry)
  obtain ⟨hd, z, xs, rel, dd⟩ := dx_of W I e hk
  have hz : xs.length ≤ sizeLine := by rw [← Paired.length rel]; exact z
  have hl : (putX kas k b v).length ≤ sizeLine := by have := putX_len kas k b v; omega
  refine wpAny_setItem_heap (hsz := hz) (tupleKind_room_in1 hu) (key_sq I eb) dd fun h' dd' hs => h _ ?_
  have he : ∃ q, h'.get? a = some q := let ⟨q, _, _, hq, _⟩ := dd'; ⟨q, hq⟩
  exact d_write I (by rw [e]; exact True.intro) hs he (dx_new (fun ks => W.hs X.prog ks) hd hl (dx_put rel k b rv) dd')
end
def tDGetX (K : PySem.W.Frag) (td ty : TE) : TE := fun σ H Q => td σ H fun x H1 => ty σ H1 fun y H2 => ∃ a v, x = .ref a ∧ DGX K H2 a y (some v) ∧ Q v H2
def tDInX (K : PySem.W.Frag) (ty td : TE) : TE := fun σ H Q => ty σ H fun y H1 => td σ H1 fun x H2 => ∃ a o, x = .ref a ∧ DGX K H2 a y o ∧ Q (.bl o.isSome) H2
def tDNotInX (K : PySem.W.Frag) (ty td : TE) : TE := fun σ H Q => ty σ H fun y H1 => td σ H1 fun x H2 => ∃ a o, x = .ref a ∧ DGX K H2 a y o ∧ Q (.bl (!o.isSome)) H2
def sDPutX (K : PySem.W.Frag) (td ty tv : TE) : TS := fun D σ H => tv σ H fun v H1 => td σ H1 fun x H2 => ty σ H2 fun y H3 => ∃ a H4, x = .ref a ∧ DPX K H3 a y v H4 ∧ D.nx σ H4
def tDNewX : TE := fun _ H Q => ∀ p, H p = none → Q (.ref p) (upd H p (dxo p []))
section
variable {X : Cx} {o i e value : Expr} {pos pos' tpos : Pos} {td ty tv : TE}
theorem dx_typeIs {pins : List (Addr × Obj)} {σ : L2.St} {H : Hp} {s : Shared} {a : Addr} {y : V} {ov : Option V} (I : Inv X pins σ H s) (g : DGX X.K H a y ov) : s.TypeIs (.ref a) "dict" := by
  obtain ⟨kas, k, b, e, _⟩ := g
  obtain ⟨⟨_, _, xs, _, ob, es, ep, h1, h2, _⟩, _⟩ := (show ObjOk X.prog X.w H s.heap a (dxo a kas) from I.hok a _ e)
  exact ⟨ob, h1, h2.1⟩
theorem pe_dgetX (W : KWOk X.K X.w) (hu : X.A.units + 1 < cLine) (ho : PE X o td) (hi : PE X i ty) (hs : NoSl i) : PE X (.Subscript o i pos) (tDGetX X.K td ty) := by
  refine ⟨fun pins s σ H Q I h => ?_⟩
  refine subD_of PySem.F.slot_dict_getitem.lookup hs (thn (ho.run pins s σ H _ I h) fun u s1 ⟨x, H1, I1, rx, q1⟩ => thn (hi.run pins s1 σ H1 _ I1 q1) fun iv s2 ⟨y, H2, I2, ry, a, v, ex, g, q2⟩ => ?_)
  subst ex
  obtain rfl : u = Value.ref a := rx
  exact ⟨dx_typeIs I2 g, dx_getItem W hu I2 g ry fun w' s3 I3 rw' => ⟨v, H2, I3, rw', q2⟩⟩
theorem pc_dinX (W : KWOk X.K X.w) (hu : X.A.units + 1 < cLine) (hi : PE X i ty) (ho : PE X o td) : PC X .In i o (tDInX X.K ty td) := by
  refine ⟨fun pins s σ H Q I h => ?_⟩
  refine thn (hi.run pins s σ H _ I h) fun iv s1 ⟨y, H1, I1, ry, q1⟩ => thn (ho.run pins s1 σ H1 _ I1 q1) fun u s2 ⟨x, H2, I2, rx, a, ov, ex, g, q2⟩ => ?_
  subst ex
  obtain rfl : u = Value.ref a := rx
  exact dx_in W hu I2 g ry fun s3 I3 => ⟨.bl ov.isSome, H2, I3, rfl, q2⟩
theorem pc_dnotinX (W : KWOk X.K X.w) (hu : X.A.units + 1 < cLine) (hi : PE X i ty) (ho : PE X o td) : PC X .NotIn i o (tDNotInX X.K ty td) := by
  refine ⟨fun pins s σ H Q I h => ?_⟩
  refine thn (hi.run pins s σ H _ I h) fun iv s1 ⟨y, H1, I1, ry, q1⟩ => thn (ho.run pins s1 σ H1 _ I1 q1) fun u s2 ⟨x, H2, I2, rx, a, ov, ex, g, q2⟩ => ?_
  subst ex
  obtain rfl : u = Value.ref a := rx
  exact dx_notIn W hu I2 g ry fun s3 I3 => ⟨.bl (!ov.isSome), H2, I3, rfl, q2⟩
theorem ps_dputX (W : KWOk X.K X.w) (hu : X.A.units + 1 < cLine) (ho : PE X o td) (hi : PE X i ty) (hv : PE X value tv) (hs : swapsWith value (some (.Subscript o i pos')) pos.line X.env = pure false) :
    PS X (.Assign [.Subscript o i pos'] value pos) (sDPutX X.K td ty tv) := by
  refine ⟨fun pins s σ H D I h => ?_⟩
  refine wpAny_Assign_Subscript (thn (hv.run pins s σ H _ I h) fun r s1 ⟨v, H1, I1, rv, q1⟩ => thn (ho.run pins s1 σ H1 _ I1 q1) fun u s2 ⟨x, H2, I2, rx, q2⟩ => thn (hi.run pins s2 σ H2 _ I2 q2) fun iv s3 ⟨y, H3, I3, ry, a, H4, ex, g, q3⟩ => ?_) hs
  subst ex
  obtain rfl : u = Value.ref a := rx
  exact dx_setItem W hu I3 g ry rv fun s4 I4 => ⟨σ, H4, I4, q3⟩
theorem pe_dnewX (W : KWOk X.K X.w) : PE X (.Dict [] [] pos) tDNewX := ⟨fun pins s σ H Q I h =>
  wpAny_Dict_empty ⟨.ref s.heap.objs.size, _, I.laid (a := s.heap.objs.size) (o := dxo s.heap.objs.size []) (t' := s.toks) (fun _ _ q => Heap.get?_push_of_some _ q) (Nat.le_refl _)
    (dx_new (xs := []) (fun ks => W.hs X.prog ks) (beq_eq_false_iff_ne.mpr (Ne.symm (Nat.ne_of_lt I.big))) (Nat.zero_le _) .nil ⟨_, #[], 0, Heap.get?_push_size _ rfl, ⟨rfl, rfl, rfl⟩, rfl, rfl, (fun x hx => nomatch hx), List.nodup_nil⟩), rfl, h _ (I.hok.fresh (Nat.le_refl _))⟩⟩
end
end LL

set_option Elab.async false
set_option linter.all false
set_option maxRecDepth 100000
set_option maxHeartbeats 400000
/-! LBkN: a list of nodes and the table of their rows, in the heap -/
namespace LL
open PySem PySem.Spec PyProof.Rows L2
variable [KW]
def tabG : Nat → List Nd → List (List Key × V)
  | _, [] => []
  | k, n :: ns => (n.keys, .int (k : Nat)) :: tabG (k + 1) ns
theorem tab_app : ∀ (k : Nat) (ns ms : List Nd), tabG k (ns ++ ms) = tabG k ns ++ tabG (k + ns.length) ms
  | k, [], ms => by rw [List.nil_append, List.length_nil, Nat.add_zero]; rfl
  | k, n :: ns, ms => by
    rw [List.cons_append, tabG, tab_app (k + 1) ns ms, tabG, List.cons_append, List.length_cons]
    rw [show k + 1 + ns.length = k + (ns.length + 1) from by omega]
theorem tab_len : ∀ (k : Nat) (ns : List Nd), (tabG k ns).length = ns.length
  | _, [] => rfl
  | k, n :: ns => by rw [tabG, List.length_cons, tab_len (k + 1) ns, List.length_cons]
theorem tab_val : ∀ (k : Nat) (ns : List Nd) (n : Nd), valV (tabG k ns) n.keys = if n ∈ ns then some (.int ((k + ns.idxOf n : Nat))) else none
  | k, [], n => by simp [tabG, valV]
  | k, m :: ns, n => by
    unfold tabG
    by_cases e : m = n
    · subst e
      unfold valV
      rw [List.find?_cons]
      simp [List.idxOf_cons]
    · have hk : ¬ m.keys = n.keys := fun z => e (keys_inj z)
      have e2 : (m == n) = false := by simpa using e
      have ih := tab_val (k + 1) ns n
      unfold valV at ih ⊢
      rw [List.find?_cons, decide_eq_false hk]
      show Option.map _ (List.find? _ (tabG (k + 1) ns)) = _
      rw [ih]
      have hm : (n ∈ m :: ns) ↔ n ∈ ns := by
        rw [List.mem_cons]
        exact ⟨fun z => z.resolve_left (fun y => e y.symm), .inr⟩
      by_cases h : n ∈ ns
      · rw [if_pos h, if_pos (hm.mpr h), List.idxOf_cons, e2]
        show some (V.int ((k + 1 + ns.idxOf n : Nat))) = some (V.int ((k + (ns.idxOf n + 1) : Nat)))
        rw [show k + 1 + ns.idxOf n = k + (ns.idxOf n + 1) from by omega]
      · rw [if_neg h, if_neg (fun z => h (hm.mp z))]
/-- a dict at T that holds kvs, its keys' tuples stand -/
structure Tab (M : List Addr) (H : Hp) (T : Addr) (kvs : List (List Key × V)) : Prop where
  ex : ∃ kas : List Ent, H T = some (dxo T kas) ∧ kas.map entKV = kvs ∧ ∀ p ∈ kas, Tp M H p.2.1 (p.1.map kV)
section
variable {M N : List Addr} {H H' : Hp} {T p b : Addr} {kvs : List (List Key × V)} {K : PySem.W.Frag} {w : World} {k : List Key} {v : V}
theorem Tab.adv (x : Tab M H T kvs) (a : Adv N H H') (hT : T ∉ N) (hn : ∀ b ∈ N, b ∈ M) : Tab M H' T kvs := by
  obtain ⟨kas, h1, h2, h3⟩ := x.ex
  exact ⟨⟨kas, a _ _ hT h1, h2, fun q hq => (h3 q hq).adv (a.more hn)⟩⟩
theorem Tab.same (x : Tab M H T kvs) (a : Adv [] H H') : Tab M H' T kvs := x.adv a (by simp) (by simp)
theorem Tab.fresh (x : Tab M H T kvs) (h : H p = none) : Tab (p :: M) H T kvs := by
  obtain ⟨kas, h1, h2, h3⟩ := x.ex
  exact ⟨⟨kas, h1, h2, fun q hq => (h3 q hq).fresh h⟩⟩
theorem Tab.less (x : Tab M H T kvs) (h : ∀ b ∈ N, b ∈ M) : Tab N H T kvs := by
  obtain ⟨kas, h1, h2, h3⟩ := x.ex
  exact ⟨⟨kas, h1, h2, fun q hq => (h3 q hq).less h⟩⟩
theorem Tab.new (h : H T = some (dxo T [])) : Tab M H T [] := ⟨⟨[], h, rfl, fun q hq => nomatch hq⟩⟩
theorem Tab.here (x : Tab M H T kvs) : H T ≠ none := by
  obtain ⟨kas, h1, _⟩ := x.ex
  rw [h1]; simp
theorem Tab.get (W : KWOk K w) (x : Tab M H T kvs) (hb : Tp N H b (k.map kV)) : DGX K H T (.ref b) (valV kvs k) := by
  obtain ⟨kas, h1, h2, h3⟩ := x.ex
  exact ⟨kas, k, b, h1, fun q hq => (h3 q hq).sq W, rfl, hb.sq W, by rw [h2]⟩
theorem putX_map (kas : List Ent) (k : List Key) (b : Addr) (v : V) : (putX kas k b v).map entKV = putK (kas.map entKV) k v := by
  have e : ((kas.map entKV).any fun kv => decide (kv.1 = k)) = kas.any fun p => decide (p.1 = k) := by rw [List.any_map]; rfl
  unfold putX putK
  rw [e]
  split
  · rw [List.map_map, List.map_map]
    refine List.map_congr_left fun q _ => ?_
    show entKV (if q.1 = k then _ else _) = (if (entKV q).1 = k then _ else _)
    by_cases z : q.1 = k
    · rw [if_pos z, if_pos z]
    · rw [if_neg z, if_neg z]
  · rw [List.map_append]; rfl
theorem Tab.put (W : KWOk K w) (x : Tab M H T kvs) (hb : Tp M H b (k.map kV)) (hl : kvs.length < sizeLine) (v : V) :
    ∃ kas' : List Ent, DPX K H T (.ref b) v (upd H T (dxo T kas')) ∧ kas'.map entKV = putK kvs k v ∧ ∀ q ∈ kas', Tp M H q.2.1 (q.1.map kV) := by
  obtain ⟨kas, h1, h2, h3⟩ := x.ex
  refine ⟨putX kas k b v, ⟨kas, k, b, h1, fun q hq => (h3 q hq).sq W, rfl, hb.sq W, by rw [← h2, List.length_map] at hl; exact hl, rfl⟩, by rw [putX_map, h2], fun q hq => ?_⟩
  unfold putX at hq
  split at hq
  · obtain ⟨p', hp', e⟩ := List.mem_map.mp hq
    by_cases z : p'.1 = k
    · rw [if_pos z] at e
      subst e
      exact h3 p' hp'
    · rw [if_neg z] at e
      subst e
      exact h3 p' hp'
  · rcases List.mem_append.mp hq with hq | hq
    · exact h3 q hq
    · rw [List.mem_singleton.mp hq]
      exact hb
/-- the table behind a store: told by its heap -/
theorem Tab.putH (W : KWOk K w) (x : Tab M H T kvs) (mT : T ∈ M) (hb : Tp M H b (k.map kV)) (hl : kvs.length < sizeLine) (v : V) :
    ∃ o : HO, DPX K H T (.ref b) v (upd H T o) ∧ Tab M (upd H T o) T (putK kvs k v) := by
  obtain ⟨kas', g, e, h⟩ := x.put W hb hl v
  exact ⟨_, g, ⟨⟨kas', upd_same, e, fun q hq => (h q hq).adv (Adv.set mT)⟩⟩⟩
end
/-- the list b0 of the nodes ns, the table b1 of their rows -/
structure BkN (M : List Addr) (H : Hp) (b0 b1 : Addr) (ns : List Nd) : Prop where
  rows : ∃ rs, H b0 = some (.lst rs) ∧ IsDs M H (ns.map Nd.data) rs
  tab : Tab M H b1 (tabG 0 ns)
  m0 : b0 ∈ M
  m1 : b1 ∈ M
  ne : b0 ≠ b1
  al : ∀ b ∈ M, H b ≠ none
theorem BkN.adv {M N : List Addr} {H H' : Hp} {b0 b1 : Addr} {ns : List Nd} (x : BkN M H b0 b1 ns) (a : Adv N H H') (h0 : b0 ∉ N) (h1 : b1 ∉ N) (hn : ∀ b ∈ N, b ∈ M) (hal : ∀ b ∈ N, H' b ≠ none) : BkN M H' b0 b1 ns := by
  obtain ⟨⟨rs, e, r⟩, t, m0, m1, ne, al⟩ := x
  exact ⟨⟨rs, a _ _ h0 e, r.adv (a.more hn)⟩, t.adv a h1 hn, m0, m1, ne, alloc_adv al a hal⟩
theorem BkN.same {M : List Addr} {H H' : Hp} {b0 b1 : Addr} {ns : List Nd} (x : BkN M H b0 b1 ns) (a : Adv [] H H') : BkN M H' b0 b1 ns := x.adv a (by simp) (by simp) (by simp) (by simp)
theorem BkN.fresh {M : List Addr} {H : Hp} {b0 b1 p : Addr} {ns : List Nd} (x : BkN M H b0 b1 ns) (h : H p = none) {o : HO} : BkN (p :: M) (upd H p o) b0 b1 ns := by
  have y := x.same (Adv.new (o := o) h)
  obtain ⟨⟨rs, e, r⟩, t, m0, m1, ne, al⟩ := x
  obtain ⟨_, _, _, _, _, al'⟩ := y
  have a : Adv [] H (upd H p o) := Adv.new h
  exact ⟨⟨rs, a.same _ _ e, (r.fresh h).adv (a.more (by simp))⟩, (t.fresh h).same a, by simp [m0], by simp [m1], ne, fun b hb => by
    rcases List.mem_cons.mp hb with z | hb
    · rw [z, upd_same]; simp
    · exact al' b hb⟩
theorem BkN.less {M N : List Addr} {H : Hp} {b0 b1 : Addr} {ns : List Nd} (x : BkN M H b0 b1 ns) (h : ∀ b ∈ N, b ∈ M) (m0 : b0 ∈ N) (m1 : b1 ∈ N) : BkN N H b0 b1 ns := by
  obtain ⟨⟨rs, e, r⟩, t, _, _, ne, al⟩ := x
  exact ⟨⟨rs, e, r.less h⟩, t.less h, m0, m1, ne, fun b hb => al b (h b hb)⟩
theorem ks_of {M : List Addr} {H : Hp} : ∀ (ks : List Key) (ws : List V), IsDs M H (ks.map keyDt) ws → ws = ks.map kV := by
  intro ks
  induction ks with
  | nil => intro ws y; unfold IsDs at y; exact y
  | cons c ks ih =>
    intro ws y
    rw [List.map_cons] at y
    unfold IsDs at y
    obtain ⟨u, r, rfl, h1, h2⟩ := y
    rw [ih r h2]
    cases c with
    | inl i => rw [h1.intE]; rfl
    | inr s => rw [h1.strE]; rfl
theorem nd_is {M : List Addr} {H : Hp} {n : Nd} {v : V} (x : Is M H n.data v) : ∃ a, v = .ref a ∧ Tp M H a (n.keys.map kV) := by
  obtain ⟨a, vs, rfl, ha, hs⟩ := x.tupE
  refine ⟨a, rfl, ?_⟩
  rw [← ks_of _ _ hs]
  exact ha
theorem nd_tp {M : List Addr} {H : Hp} {n : Nd} {a : Addr} (h : Tp M H a (n.keys.map kV)) : Is M H n.data (.ref a) := Is.tp h (ks_data _)
theorem tab_mem (k : Nat) (ns : List Nd) (n : Nd) : memK n.keys ((tabG k ns).map (·.1)) = decide (n ∈ ns) := by
  rw [← val_mem, tab_val]
  by_cases h : n ∈ ns
  · rw [if_pos h, decide_eq_true h]; rfl
  · rw [if_neg h, decide_eq_false h]; rfl
/-- a node is added at the end -/
theorem BkN.push {K : PySem.W.Frag} {w : World} (W : KWOk K w) {M : List Addr} {H : Hp} {b0 b1 a : Addr} {ns : List Nd} {n : Nd} {rs : List V} (x : BkN M H b0 b1 ns) (h0 : H b0 = some (.lst rs)) (ha : Tp M H a (n.keys.map kV)) (hm : n ∉ ns) (hl : ns.length < sizeLine) :
    ∃ o : HO, DPX K H b1 (.ref a) (.int (rs.length : Nat)) (upd H b1 o) ∧ BkN M (upd (upd H b1 o) b0 (.lst (rs ++ [.ref a]))) b0 b1 (ns ++ [n]) := by
  obtain ⟨⟨rs', e, r⟩, t, m0, m1, ne, al⟩ := x
  rw [h0] at e
  cases e
  have hrl := r.len
  rw [List.length_map] at hrl
  obtain ⟨o, g, t2⟩ := t.putH W m1 ha (by rw [tab_len]; exact hl) (.int (rs.length : Nat))
  refine ⟨o, g, ?_⟩
  have a1 : Adv [b0, b1] H (upd H b1 o) := Adv.set (by simp)
  have a2 : Adv [b0] (upd H b1 o) (upd (upd H b1 o) b0 (.lst (rs ++ [.ref a]))) := Adv.set (by simp)
  have aa : Adv [b0, b1] H (upd (upd H b1 o) b0 (.lst (rs ++ [.ref a]))) := a1.trans (a2.more (by simp))
  have mM : ∀ b ∈ [b0, b1], b ∈ M := by simp [m0, m1]
  refine ⟨⟨rs ++ [.ref a], upd_same, ?_⟩, ?_, m0, m1, ne, alloc_adv al aa fun b hb => ?_⟩
  · rw [List.map_append]
    exact (r.adv (aa.more mM)).app (IsDs.one (nd_tp (ha.adv (aa.more mM))))
  · rw [put_new _ _ _ (by rw [tab_mem]; exact decide_eq_false hm)] at t2
    have := t2.adv a2 (by simpa using ne.symm) (by simp [m0])
    rw [tab_app, Nat.zero_add, ← hrl]
    exact this
  · rcases List.mem_cons.mp hb with e | hb
    · rw [e, upd_same]; simp
    · rw [List.mem_singleton.mp hb, upd_ne ne.symm, upd_same]; simp
end LL

set_option Elab.async false
set_option linter.all false
set_option maxRecDepth 100000
set_option maxHeartbeats 400000
/-! LFilt: a filtered comprehension over a range; lists of marks -/
namespace LL
open PySem PySem.Spec PyProof.Rows L2
variable [KW]
def mbV (m : Nat → Bool) (n : Nat) : List V := (List.range n).map fun i => V.bl (m i)
theorem mb_len (m : Nat → Bool) (n : Nat) : (mbV m n).length = n := by unfold mbV; rw [List.length_map, List.length_range]
theorem mb_at {m : Nat → Bool} {n i : Nat} (h : i < n) : (mbV m n)[i]? = some (.bl (m i)) := by
  unfold mbV
  rw [List.getElem?_map, List.getElem?_range h]
  rfl
theorem mb_zero (n : Nat) : (List.replicate n [V.bl false]).flatten = mbV (fun _ => false) n := by
  unfold mbV
  induction n with
  | zero => rfl
  | succ n ih =>
    rw [List.replicate_succ', List.flatten_append, ih, List.range_succ, List.map_append]
    rfl
theorem mb_set {m : Nat → Bool} {n i : Nat} : (mbV m n).set i (.bl true) = mbV (markP m [i]) n := by
  apply List.ext_getElem?
  intro j
  rw [List.getElem?_set]
  by_cases hj : j < n
  · rw [mb_at hj, mb_at hj, mb_len]
    by_cases e : i = j
    · subst e
      rw [if_pos rfl, if_pos hj, markP_new (by simp)]
    · rw [if_neg e]
      have : markP m [i] j = m j := by
        unfold markP
        rw [show [i].contains j = false from by simp; exact fun z => e z.symm, Bool.or_false]
      rw [this]
  · have l1 : (mbV m n)[j]? = none := List.getElem?_eq_none (by rw [mb_len]; omega)
    have l2 : (mbV (markP m [i]) n)[j]? = none := List.getElem?_eq_none (by rw [mb_len]; omega)
    rw [l1, l2, mb_len]
    split
    · split
      · omega
      · rfl
    · rfl
theorem markP_snoc (m : Nat → Bool) (ps : List Nat) (p : Nat) : markP (markP m ps) [p] = markP m (ps ++ [p]) := by
  funext x
  unfold markP
  rw [List.contains_append, Bool.or_assoc]
theorem markP_nil (m : Nat → Bool) : markP m [] = m := by
  funext x
  unfold markP
  simp
section
variable {g : TG} {te : TE} {vs : List Nat} {σ : L2.St} {H1 : Hp} {D : Addr} {Qd : Hp → Prop}
theorem lc_filtR {n : Nat} {tt : TT} (ys : Nat → V) (c : Nat → Bool) (hD : H1 D = none) (hz : n ≤ 1000000)
    (hs : ∀ (i : Nat) (H : Hp) (acc : List V) (R : V → Hp → Prop) (R0 : Hp → Prop), i < n → Adv [] H1 H → H D = some (.lst acc) → (c i = true → ∀ H4, H4 D = some (.lst acc) → Adv [] H1 H4 → R (ys i) H4) →
      (c i = false → ∀ H4, H4 D = some (.lst acc) → Adv [] H1 H4 → R0 H4) → g (.int (0 + (i : Nat))) (wipe σ vs) H fun σ2 H2 => wipe σ2 vs = wipe σ vs ∧ tt σ2 H2 fun b H3 => if b = true then te σ2 H3 R else R0 H3)
    (hd : ∀ H, Adv [] H1 H → H D = some (.lst (((List.range n).filter c).map ys)) → Qd H) :
    ∃ W : Nat → Nat → Hp → Prop, (∃ m, W 0 m (upd H1 D (.lst []))) ∧ ∀ i m H, W i m H →
      ((Itr 0 n).stop i H ∧ Qd H) ∨ ((Itr 0 n).go i H ∧ ∃ Nx : Hp → Prop, (∀ H', Nx H' → ∃ m', m' < m ∧ W (i + 1) m' H') ∧ ∀ x H', (Itr 0 n).yld i H x H' → g x (wipe σ vs) H' fun σ2 H2 => wipe σ2 vs = wipe σ vs ∧ tt σ2 H2 fun b H3 =>
        if b = true then te σ2 H3 fun y H4 => ∃ acc, H4 D = some (.lst acc) ∧ acc.length < sizeLine ∧ Nx (upd H4 D (.lst (acc ++ [y]))) else Nx H3) := by
  refine lc_range (lo := 0) (n := n) (tt := tt) (fun i H => Adv [] H1 H ∧ H D = some (.lst (((List.range i).filter c).map ys))) ⟨Adv.new hD, upd_same⟩ (fun i H hi p => ?_) (fun H p => hd H p.1 p.2)
  refine hs i H _ (fun y H4 => ∃ acc, H4 D = some (.lst acc) ∧ acc.length < sizeLine ∧ Adv [] H1 (upd H4 D (.lst (acc ++ [y]))) ∧ (upd H4 D (.lst (acc ++ [y]))) D = some (.lst (((List.range (i + 1)).filter c).map ys)))
    (fun H3 => Adv [] H1 H3 ∧ H3 D = some (.lst (((List.range (i + 1)).filter c).map ys))) hi p.1 p.2 (fun hc H4 e4 a4 => ⟨_, e4, ?_, Adv.mut a4 hD, ?_⟩) (fun hc H4 e4 a4 => ⟨a4, ?_⟩)
  · have h1 := List.length_filter_le c (List.range i)
    rw [List.length_range] at h1
    rw [List.length_map, sizeLine_eq]
    omega
  · rw [upd_same, range_filt_succ, if_pos hc]
  · rw [e4, range_filt_succ, if_neg (by rw [hc]; decide), List.append_nil]
end
end LL

set_option Elab.async false
set_option linter.all false
set_option maxRecDepth 100000
set_option maxHeartbeats 400000
/-! LNew: a dict from rows to rows -/
namespace LL
open PySem PySem.Spec PyProof.Rows L2
variable [KW]
def newT (l : List Nat) (f : Nat → Nat) : List (Key × V) := l.map fun (i : Nat) => (Sum.inl ((i : Nat) : Int), V.int ((f i : Nat) : Int))
theorem new_val (f : Nat → Nat) : ∀ (l : List Nat) (i : Nat), valV (newT l f) (Sum.inl (i : Int)) = if i ∈ l then some (.int (f i : Nat)) else none
  | [], i => by simp [newT, valV]
  | j :: l, i => by
    unfold newT valV
    rw [List.map_cons, List.find?_cons]
    by_cases e : j = i
    · subst e
      simp
    · have hk : ¬ (Sum.inl (j : Int) : Key) = Sum.inl (i : Int) := fun z => e (by have := Sum.inl.inj z; omega)
      rw [decide_eq_false hk]
      have ih := new_val f l i
      unfold newT valV at ih
      show Option.map _ (List.find? _ (l.map _)) = _
      rw [ih]
      have hm : i ∈ j :: l ↔ i ∈ l := by
        rw [List.mem_cons]
        exact ⟨fun z => z.resolve_left (fun y => e y.symm), .inr⟩
      by_cases h : i ∈ l
      · rw [if_pos h, if_pos (hm.mpr h)]
      · rw [if_neg h, if_neg (fun z => h (hm.mp z))]
theorem new_put {l : List Nat} {f : Nat → Nat} {i r : Nat} (h : i ∉ l) : putK (newT l f) (Sum.inl (i : Int)) (.int (r : Nat)) = newT (l ++ [i]) (fun x => if x = i then r else f x) := by
  have hno : ((newT l f).any fun kv => decide (kv.1 = Sum.inl (i : Int))) = false := by
    refine Bool.eq_false_iff.mpr fun z => ?_
    rw [List.any_eq_true] at z
    obtain ⟨p, hp, e⟩ := z
    unfold newT at hp
    obtain ⟨j, hj, rfl⟩ := List.mem_map.mp hp
    have e' := Sum.inl.inj (of_decide_eq_true e)
    have : j = i := by omega
    exact h (this ▸ hj)
  unfold putK
  rw [hno, if_neg Bool.false_ne_true]
  unfold newT
  rw [List.map_append]
  congr 1
  · apply List.map_congr_left
    intro x hx
    have hne : x ≠ i := fun z => h (by rw [← z]; exact hx)
    simp [hne]
  · simp
end LL

set_option Elab.async false
set_option linter.all false
set_option maxRecDepth 100000
set_option maxHeartbeats 400000
/-! LStep: what a step of a reading keeps -/
namespace LL
open PySem PySem.Spec PyProof.Rows L2
variable [KW]
theorem rowF_len (ns : List Nd) (n : Nd) : (rowF ns n).2.length ≤ ns.length + 1 := by
  unfold rowF
  split <;> simp
theorem denyF_pre (ns : List Nd) (r : Nat) : ns <+: (denyF ns r).2 := by
  unfold denyF
  exact (rowF_pre _ _).trans (rowF_pre _ _)
theorem denyF_len (ns : List Nd) (r : Nat) : (denyF ns r).2.length ≤ ns.length + 2 := by
  unfold denyF
  have h1 := rowF_len ns .no
  have h2 := rowF_len (rowF ns .no).2 (.bin .imp r (rowF ns .no).1)
  omega
theorem stepF_pre (w : W3) (ns : List Nd) (i : Nat) (n : Nd) (f : Nat → Nat) : ns <+: (stepF w ns i n f).2 := by
  unfold stepF
  split
  · exact List.prefix_refl _
  · exact List.prefix_refl _
  · exact (denyF_pre _ _).trans (denyF_pre _ _)
  · exact rowF_pre _ _
  · exact (((denyF_pre _ _).trans (denyF_pre _ _)).trans (rowF_pre _ _)).trans (denyF_pre _ _)
  · exact (rowF_pre _ _).trans (rowF_pre _ _)
  · exact (rowF_pre _ _).trans (rowF_pre _ _)
  · exact rowF_pre _ _
theorem stepF_len (w : W3) (ns : List Nd) (i : Nat) (n : Nd) (f : Nat → Nat) : (stepF w ns i n f).2.length ≤ ns.length + 8 := by
  unfold stepF
  split
  · simp
  · simp
  · have h1 := denyF_len ns i
    have h2 := denyF_len (denyF ns i).2 (denyF ns i).1
    omega
  · have := rowF_len ns (.box i)
    omega
  · rename_i j k
    have h1 := denyF_len ns (f j)
    have h2 := denyF_len (denyF ns (f j)).2 (f k)
    have h3 := rowF_len (denyF (denyF ns (f j)).2 (f k)).2 (.bin .and (denyF ns (f j)).1 (denyF (denyF ns (f j)).2 (f k)).1)
    have h4 := denyF_len (rowF (denyF (denyF ns (f j)).2 (f k)).2 (.bin .and (denyF ns (f j)).1 (denyF (denyF ns (f j)).2 (f k)).1)).2 (rowF (denyF (denyF ns (f j)).2 (f k)).2 (.bin .and (denyF ns (f j)).1 (denyF (denyF ns (f j)).2 (f k)).1)).1
    show (denyF _ _).2.length ≤ _
    omega
  · rename_i j k
    have h1 := rowF_len ns (.bin .imp (f j) (f k))
    have h2 := rowF_len (rowF ns (.bin .imp (f j) (f k))).2 (.box (rowF ns (.bin .imp (f j) (f k))).1)
    show (rowF _ _).2.length ≤ _
    omega
  · rename_i j
    have h1 := rowF_len ns (.box (f j))
    have h2 := rowF_len (rowF ns (.box (f j))).2 (.bin .and (f j) (rowF ns (.box (f j))).1)
    show (rowF _ _).2.length ≤ _
    omega
  · have := rowF_len ns (n.moved f)
    omega
theorem readF_snoc (w : W3) (old : List Nd) : ∀ (l : List Nat) (i : Nat) (ns : List Nd) (f : Nat → Nat),
    readF w old (l ++ [i]) ns f = ((stepF w (readF w old l ns f).1 i (old[i]?.getD .no) (readF w old l ns f).2).2, fun x => if x = i then (stepF w (readF w old l ns f).1 i (old[i]?.getD .no) (readF w old l ns f).2).1 else (readF w old l ns f).2 x)
  | [], i, ns, f => rfl
  | j :: l, i, ns, f => readF_snoc w old l i _ _
theorem readF_pre (w : W3) (old : List Nd) : ∀ (l : List Nat) (ns : List Nd) (f : Nat → Nat), ns <+: (readF w old l ns f).1
  | [], ns, f => List.prefix_refl _
  | j :: l, ns, f => (stepF_pre w ns j _ f).trans (readF_pre w old l _ _)
theorem readF_len (w : W3) (old : List Nd) : ∀ (l : List Nat) (ns : List Nd) (f : Nat → Nat), (readF w old l ns f).1.length ≤ ns.length + 8 * l.length
  | [], ns, f => by simp [readF]
  | j :: l, ns, f => by
    have h1 := stepF_len w ns j (old[j]?.getD .no) f
    have h2 := readF_len w old l (stepF w ns j (old[j]?.getD .no) f).2 (fun x => if x = j then (stepF w ns j (old[j]?.getD .no) f).1 else f x)
    show (readF w old l _ _).1.length ≤ _
    rw [List.length_cons]
    omega
theorem below_take {ns : List Nd} {rows : List Nat} {i r p : Nat} (hr : (belowF ns rows)[i]? = some r) (hp : p ∈ belowF ns rows) (hl : p < r) : p ∈ (belowF ns rows).take i := by
  have hs : (belowF ns rows).Pairwise (· < ·) := List.Pairwise.filter _ List.pairwise_lt_range
  obtain ⟨hi, e⟩ := List.getElem?_eq_some_iff.mp hr
  obtain ⟨j, hj, ej⟩ := List.getElem_of_mem hp
  rcases Nat.lt_or_ge j i with h | h
  · rw [← ej]
    exact List.mem_take_iff_getElem.mpr ⟨j, by omega, rfl⟩
  · rcases Nat.lt_or_eq_of_le h with h | h
    · have := List.pairwise_iff_getElem.mp hs i j hi hj h
      omega
    · subst h
      omega
theorem below_notin {ns : List Nd} {rows : List Nat} {i r : Nat} (hr : (belowF ns rows)[i]? = some r) : r ∉ (belowF ns rows).take i := fun z => by
  have hs : (belowF ns rows).Pairwise (· < ·) := List.Pairwise.filter _ List.pairwise_lt_range
  obtain ⟨hi, e⟩ := List.getElem?_eq_some_iff.mp hr
  obtain ⟨j, hj, ej⟩ := List.getElem_of_mem z
  rw [List.length_take] at hj
  rw [List.getElem_take] at ej
  have := List.pairwise_iff_getElem.mp hs j i (by omega) hi (by omega)
  omega
end LL

set_option Elab.async false
set_option linter.all false
set_option maxRecDepth 100000
set_option maxHeartbeats 400000
/-! LRd: the readings of the constructs as lemmas by their heads, for a reading step by step -/
namespace LL
open PySem PySem.Spec PyProof.Rows L2
variable [KW]
section
variable {σ : L2.St} {H : Hp} {Q : VK} {B : Bool → Hp → Prop} {v x y : V} {ta tb te : TE} {K : PySem.W.Frag} {u t s : TS} {D : Ends} {N : L2.St → Hp → Prop}
theorem rd_var {i : Nat} (h : σ[i]? = some (some v)) (q : Q v H) : tVar i σ H Q := ⟨v, h, q⟩
theorem rd_c (q : Q v H) : tC v σ H Q := q
theorem rd_op {r : R2} (q : ta σ H fun x H1 => tb σ H1 fun y H2 => r x y H2 Q) : tOp r ta tb σ H Q := q
theorem rd_un {r : V → Hp → VK → Prop} (q : ta σ H fun x H1 => r x H1 Q) : tUn r ta σ H Q := q
theorem rd_eq (h : scal x y = true) (q : Q (.bl (decide (x = y))) H) : rEq x y H Q := ⟨h, q⟩
theorem rd_ne (h : scal x y = true) (q : Q (.bl (!decide (x = y))) H) : rNe x y H Q := ⟨h, q⟩
theorem rd_add {i j : Int} (q : Q (.int (i + j)) H) : rAdd (.int i) (.int j) H Q := ⟨i, j, rfl, rfl, q⟩
theorem rd_sub {i j : Int} (q : Q (.int (i - j)) H) : rSub (.int i) (.int j) H Q := ⟨i, j, rfl, rfl, q⟩
theorem rd_i0 {g : Int → Int → V} {i j : Int} (q : Q (g i j) H) : rI0 g (.int i) (.int j) H Q := ⟨i, j, rfl, rfl, q⟩
theorem rd_i {C : Int → Int → Prop} {g : Int → Int → V} {i j : Int} (h : C i j) (q : Q (g i j) H) : rI C g (.int i) (.int j) H Q := ⟨i, j, rfl, rfl, h, q⟩
theorem rd_isN (q : ta σ H fun x H1 => Q (.bl (decide (x = .non))) H1) : tIsN ta σ H Q := q
theorem rd_notN (q : ta σ H fun x H1 => Q (.bl (!decide (x = .non))) H1) : tNotN ta σ H Q := q
theorem rd_test (q : te σ H fun x H' => ∃ k, x = .bl k ∧ B k H') : tTest te σ H B := q
theorem rd_tB (q : te σ H fun x H' => ∃ k, x = .bl k ∧ B k H') : tB te σ H B := q
theorem rd_bl {k : Bool} (q : B k H) : ∃ c, V.bl k = .bl c ∧ B c H := ⟨k, rfl, q⟩
theorem rd_blP {k : Bool} {P : Bool → Prop} (q : P k) : ∃ c, V.bl k = .bl c ∧ P c := ⟨k, rfl, q⟩
theorem rd_and {a b : TT} (q : a σ H fun c H1 => if c = true then b σ H1 B else B false H1) : tAnd a b σ H B := q
theorem rd_or {a b : TT} (q : a σ H fun c H1 => if c = true then B true H1 else b σ H1 B) : tOr a b σ H B := q
theorem rd_not {a : TT} (q : a σ H fun c H1 => B (!c) H1) : tNot a σ H B := q
theorem rd_andV (q : ta σ H fun x H1 => ∃ c, x = .bl c ∧ if c = true then tb σ H1 Q else Q (.bl false) H1) : tAndV ta tb σ H Q := q
theorem rd_orV (q : ta σ H fun x H1 => ∃ c, x = .bl c ∧ if c = true then Q (.bl true) H1 else tb σ H1 Q) : tOrV ta tb σ H Q := q
theorem rd_notV (q : ta σ H fun x H1 => ∃ c, x = .bl c ∧ Q (.bl (!c)) H1) : tNotV ta σ H Q := q
theorem rd_ifE {c : TT} (q : c σ H fun b H1 => if b = true then ta σ H1 Q else tb σ H1 Q) : tIf c ta tb σ H Q := q
/-! statements -/
theorem rd_seq (q : t { D with nx := u D } σ H) : tSeq t u D σ H := q
theorem rd_nx {r : VK} {b c : L2.St → Hp → Prop} (q : N σ H) : tNext ⟨N, r, b, c⟩ σ H := q
theorem rd_ret (q : te σ H D.rt) : tRet te D σ H := q
theorem rd_retN (q : D.rt .non H) : tRetN D σ H := q
theorem rd_drop (q : te σ H fun _ H1 => D.nx σ H1) : tDrop te D σ H := q
theorem rd_asg {g : TG} (q : te σ H fun x H1 => g x σ H1 D.nx) : tAsg te g D σ H := q
theorem rd_gname {i : Nat} (q : N (σ.set i (some v)) H) : gName i v σ H N := q
theorem rd_gsub {i : TE} {f : TSet} (q : ta σ H fun o H1 => i σ H1 fun i H2 => f o i v H2 fun H3 => N σ H3) : gSub ta i f v σ H N := q
theorem rd_gtup {g : TGs} {a : Addr} {n : Nat} {xs : List V} (h : SqT K H a xs) (hl : xs.length = n) (q : g xs σ H N) : gTup K n g (.ref a) σ H N := ⟨a, xs, rfl, h, hl, q⟩
theorem rd_gcons {g : TG} {g' : TGs} {r : List V} (q : g v σ H fun σ' H' => g' r σ' H' N) : gCons g g' (v :: r) σ H N := ⟨v, r, rfl, q⟩
theorem rd_gnil (q : N σ H) : gNil [] σ H N := ⟨rfl, q⟩
theorem rd_ifS {c : TT} (q : c σ H fun b H1 => if b = true then t D σ H1 else u D σ H1) : tIfS c t u D σ H := q
theorem rd_par {i j : Nat} {tt : TA} (q : tt σ H fun vs H1 => ∃ v w, vs = [v, w] ∧ D.nx ((σ.set i (some v)).set j (some w)) H1) : tPar i j tt D σ H := q
theorem rd_two {P : V → V → Prop} (q : P v x) : ∃ a b, [v, x] = [a, b] ∧ P a b := ⟨v, x, rfl, q⟩
theorem rd_par3 {i j l : Nat} {tt : TA} (q : tt σ H fun vs H1 => ∃ u v w, vs = [u, v, w] ∧ D.nx (((σ.set i (some u)).set j (some v)).set l (some w)) H1) : tPar3 i j l tt D σ H := q
theorem rd_three {z : V} {P : V → V → V → Prop} (q : P v x z) : ∃ a b c, [v, x, z] = [a, b, c] ∧ P a b c := ⟨v, x, z, rfl, q⟩
theorem rd_int1 {P : Int → Prop} {R : Prop} {i : Int} (q : P i) : (∃ j, [V.int i] = [V.int j] ∧ P j) ∨ R := .inl ⟨i, rfl, q⟩
theorem rd_for {wi : TI} {g : TG} {tb : TS} (q : wi σ H fun J H1 => ∃ W : Nat → Nat → L2.St → Hp → Prop, (∃ m, W 0 m σ H1) ∧ ∀ i m σ H, W i m σ H →
    (J.stop i H ∧ D.nx σ H) ∨ (J.go i H ∧ ∃ N : L2.St → Hp → Prop, (∀ σ' H', N σ' H' → ∃ m', m' < m ∧ W (i + 1) m' σ' H') ∧ ∀ x H', J.yld i H x H' → g x σ H' fun σ2 H2 => tb { D with nx := N, ct := N, bk := D.nx } σ2 H2)) : tFor wi g tb D σ H := q
theorem rd_rng1 {ta : TA} {R : It → Hp → Prop} (q : ta σ H fun vs H1 => ∃ j : Int, vs = [.int j] ∧ -(2 ^ 62) ≤ j ∧ j < 2 ^ 62 ∧ R (Itr 0 j.toNat) H1) : iRng1 ta σ H R := q
theorem rd_rng2 {ta : TA} {R : It → Hp → Prop} (q : ta σ H fun vs H1 => ∃ i j : Int, vs = [.int i, .int j] ∧ (-(2 ^ 62) ≤ i ∧ i < 2 ^ 62 ∧ -(2 ^ 62) ≤ j ∧ j < 2 ^ 62) ∧ R (Itr i (j - i).toNat) H1) : iRng2 ta σ H R := q
theorem rd_ints1 {P : Int → Prop} {i : Int} (q : P i) : ∃ j, [V.int i] = [V.int j] ∧ P j := ⟨i, rfl, q⟩
theorem rd_ints2 {P : Int → Int → Prop} {i j : Int} (q : P i j) : ∃ a b, [V.int i, V.int j] = [V.int a, V.int b] ∧ P a b := ⟨i, j, rfl, q⟩
/-! arguments, displays -/
theorem rd_nil {A : List V → Hp → Prop} (q : A [] H) : tNil σ H A := q
theorem rd_cons {tr : TA} {A : List V → Hp → Prop} (q : ta σ H fun x H1 => tr σ H1 fun xs H2 => A (x :: xs) H2) : tCons ta tr σ H A := q
theorem rd_tup {tt : TA} (q : tt σ H fun xs H1 => xs.length ≤ sizeLine ∧ ∀ p, H1 p = none → Q (.ref p) (upd H1 p (.tup xs))) : tTup tt σ H Q := q
theorem rd_lst {tt : TA} (q : tt σ H fun xs H1 => xs.length ≤ sizeLine ∧ ∀ p, H1 p = none → Q (.ref p) (upd H1 p (.lst xs))) : tLst tt σ H Q := q
theorem rd_call {sp : Sp} {dvs : List V} {E : XK} {tt : TA} (q : tt σ H fun vs H1 => sp (vs ++ dvs) H1 Q E) : tCall sp dvs E tt σ H Q := q
theorem rd_make {C : Addr} {sp : Sp} {dvs : List V} {E : XK} {tt : TA} (q : tt σ H fun vs H1 => ∀ x dx, H1 x = none → H1 dx = none → dx ≠ x → sp (.ref x :: (vs ++ dvs)) (upd (upd H1 dx (.own x)) x (.ins C dx [])) (fun v H2 => v = .non ∧ Q (.ref x) H2) E) : tMake C sp dvs E tt σ H Q := q
theorem rd_callS {sp : Sp} {E : L2.St → XK} {tt : TA} (q : tt σ H fun vs H1 => sp vs H1 Q (E σ)) : tCallS sp E tt σ H Q := q
theorem rd_cb {r : List V → Hp → VK → Prop} {tt : TA} (q : tt σ H fun vs H1 => r vs H1 Q) : tCB r tt σ H Q := q
theorem rd_meth {C : Addr} {m : Str} {sp : Sp} {dvs : List V} {E : XK} {tt : TA} (q : ta σ H fun x H1 => ∃ a dx fs, x = .ref a ∧ H1 a = some (.ins C dx fs) ∧ fs.lookup m = none ∧ tt σ H1 fun vs H2 => sp (x :: (vs ++ dvs)) H2 Q E) : tMeth C m sp dvs E ta tt σ H Q := q
theorem rd_methA {C a dx : Addr} {fs : List (Str × V)} {m : Str} {T : Prop} (h : H a = some (.ins C dx fs)) (hm : fs.lookup m = none) (q : T) : ∃ a' dx' fs', V.ref a = .ref a' ∧ H a' = some (.ins C dx' fs') ∧ fs'.lookup m = none ∧ T := ⟨a, dx, fs, rfl, h, hm, q⟩
theorem rd_fld {f : Str} (q : ta σ H fun x H1 => ∃ a C dx fs v, x = .ref a ∧ H1 a = some (.ins C dx fs) ∧ Cls K C ∧ NoAttr K C f ∧ fs.lookup f = some v ∧ Q v H1) : tFld K ta f σ H Q := q
theorem rd_fldA {f : Str} {a C dx : Addr} {fs : List (Str × V)} (h : H a = some (.ins C dx fs)) (hc : Cls K C) (hn : NoAttr K C f) (hl : fs.lookup f = some v) {P : V → Prop} (q : P v) :
    ∃ a' C' dx' fs' v', V.ref a = .ref a' ∧ H a' = some (.ins C' dx' fs') ∧ Cls K C' ∧ NoAttr K C' f ∧ fs'.lookup f = some v' ∧ P v' := ⟨a, C, dx, fs, v, rfl, h, hc, hn, hl, q⟩
theorem rd_part {Z : Option Int → Hp → Prop} (q : te σ H fun x H1 => ∃ i, x = .int i ∧ Z (some i) H1) : tPart te σ H Z := q
theorem rd_nopart {Z : Option Int → Hp → Prop} (q : Z none H) : tNoPart σ H Z := q
theorem rd_int {P : Int → Prop} {i : Int} (q : P i) : ∃ j, V.int i = .int j ∧ P j := ⟨i, rfl, q⟩
theorem rd_sl {r : V → Option Int → Option Int → Hp → VK → Prop} {tl th : TO} (q : te σ H fun x H1 => tl σ H1 fun l H2 => th σ H2 fun u H3 => r x l u H3 Q) : tSl r te tl th σ H Q := q
theorem rd_bm {T : String} {r : V → List V → Hp → VK → Prop} {tt : TA} (q : te σ H fun x H1 => tyV K T x H1 ∧ tt σ H1 fun xs H2 => r x xs H2 Q) : tBM K T r te tt σ H Q := q
theorem rd_bm0 {T : String} {r : V → List V → Hp → VK → Prop} (q : te σ H fun x H1 => tyV K T x H1 ∧ r x [] H1 Q) : tBM0 K T r te σ H Q := q
theorem rd_tyL {a : Addr} {xs : List V} {T : Prop} (h : H a = some (.lst xs)) (q : T) : tyV K "list" (.ref a) H ∧ T := ⟨.inl ⟨rfl, _, SqL.of h⟩, q⟩
/-! readings of the heap -/
theorem rd_slL {a : Addr} {xs : List V} {lo hi : Option Int} (h : H a = some (.lst xs)) (q : ∀ p, H p = none → Q (.ref p) (upd H p (.lst (cutV xs lo hi)))) : rSlL K (.ref a) lo hi H Q := ⟨a, xs, rfl, SqL.of h, q⟩
theorem rd_cat {l b : Addr} {xs zs : List V} (h : H l = some (.lst xs)) (h2 : H b = some (.lst zs)) (hl : xs.length + zs.length ≤ sizeLine) (q : ∀ p, H p = none → Q (.ref p) (upd H p (.lst (xs ++ zs)))) : rCat (.ref l) (.ref b) H Q := ⟨l, b, xs, zs, rfl, rfl, h, h2, hl, q⟩
theorem rd_u {g : Int → V} {i : Int} (q : Q (g i) H) : rU g (.int i) H Q := ⟨i, rfl, q⟩
theorem rd_ixL {p : Addr} {xs : List V} {i : Int} (h : H p = some (.lst xs)) (e : atI xs i = some v) (q : Q v H) : rIxL K (.ref p) (.int i) H Q := ⟨p, xs, i, v, rfl, rfl, SqL.of h, e, q⟩
theorem rd_ixT {p : Addr} {xs : List V} {i : Int} (h : SqT K H p xs) (e : atI xs i = some v) (q : Q v H) : rIxT K (.ref p) (.int i) H Q := ⟨p, xs, i, v, rfl, rfl, h, e, q⟩
theorem rd_lenT {xs : List V} {p : Addr} {P : List V → Prop} (h : SqT K H p xs) (q : P xs) : ∃ (p' : Addr) (xs' : List V), [V.ref p] = [V.ref p'] ∧ (SqL K H p' xs' ∨ SqT K H p' xs') ∧ P xs' := ⟨p, xs, rfl, .inr h, q⟩
theorem rd_len {xs : List V} {p : Addr} {P : List V → Prop} (h : H p = some (.lst xs)) (q : P xs) : ∃ (p' : Addr) (xs' : List V), [V.ref p] = [V.ref p'] ∧ (SqL K H p' xs' ∨ SqT K H p' xs') ∧ P xs' := ⟨p, xs, rfl, .inl (SqL.of h), q⟩
theorem rd_app {l : Addr} {xs : List V} (h : H l = some (.lst xs)) (hl : xs.length < sizeLine) (q : Q .non (upd H l (.lst (xs ++ [y])))) : rAppend (.ref l) [y] H Q := ⟨l, xs, y, rfl, rfl, h, hl, q⟩
theorem rd_slT {a : Addr} {xs : List V} {lo hi : Option Int} (h : H a = some (.tup xs)) : rSlT K (.ref a) lo hi H Q ↔ rSlT K (.ref a) lo hi H Q := Iff.rfl
theorem rd_dgetT {td ty : TE} (q : td σ H fun x H1 => ty σ H1 fun y H2 => ∃ a v, x = .ref a ∧ DGet H2 a y (some v) ∧ Q v H2) : tDGet td ty σ H Q := q
theorem rd_dget {a : Addr} {P : V → Prop} (h : DGet H a y (some v)) (q : P v) : ∃ a' v', V.ref a = .ref a' ∧ DGet H a' y (some v') ∧ P v' := ⟨a, v, rfl, h, q⟩
theorem rd_dgx {a : Addr} {P : V → Prop} (h : DGX K H a y (some v)) (q : P v) : ∃ a' v', V.ref a = .ref a' ∧ DGX K H a' y (some v') ∧ P v' := ⟨a, v, rfl, h, q⟩
theorem rd_din {td ty : TE} (q : ty σ H fun y H1 => td σ H1 fun x H2 => ∃ a o, x = .ref a ∧ DGet H2 a y o ∧ Q (.bl o.isSome) H2) : tDIn ty td σ H Q := q
theorem rd_dnin {td ty : TE} (q : ty σ H fun y H1 => td σ H1 fun x H2 => ∃ a o, x = .ref a ∧ DGet H2 a y o ∧ Q (.bl (!o.isSome)) H2) : tDNotIn ty td σ H Q := q
end
theorem rd_rfl {α : Type} {x : α} {T : Prop} (q : T) : x = x ∧ T := ⟨rfl, q⟩
theorem Adv.get' {M : List Addr} {H H' : Hp} {p : Addr} {o : HO} (a : Adv M H H') (e : H p = some o) (hp : p ∉ M) : H' p = some o := a p o hp e
theorem notin2 {a b c : Addr} (h : a ≠ b) (h' : a ≠ c) : a ∉ [b, c] := by simp [h, h']
theorem notin1 {a b : Addr} (h : a ≠ b) : a ∉ [b] := by simp [h]
theorem notin0 {a : Addr} : a ∉ ([] : List Addr) := by simp
end LL

set_option Elab.async false
set_option linter.all false
set_option maxRecDepth 100000
set_option maxHeartbeats 400000
/-! LDue: the answers of the three readings, in plain words -/
namespace LL
open PySem PySem.Spec PyProof.Rows L2
variable [KW]
def W3.boxes : W3 → Bool
  | .dou => true
  | _ => false
def lenD : PyData → Nat
  | .list ds => ds.length
  | _ => 0
/-- the grown sheet and the rows' readings -/
def readA (w : W3) (ns : List Nd) (row : Nat) : List Nd × (Nat → Nat) := readF w ns (belowF ns [row]) ns (fun _ => 0)
/-- what is due -/
inductive Due (w : W3) (d r : PyData) : PyData → Prop
  | sheet (i : Int) (h : wrongD 5000 w.boxes d = some i) : Due w d r (.tuple [.str "BadSheet", .int i])
  | value (h : wrongD 5000 w.boxes d = none) (h2 : isNum 0 ((lenD d : Int) - 1) r = false) : Due w d r (.tuple [.str "BadValue", .str "row"])
  | told (ns : List Nd) (row : Nat) (h : wrongD 5000 w.boxes d = none) (hd : d = .list (ns.map Nd.data)) (ok : okSheet w.boxes ns) (hl : ns.length ≤ 5000) (hr : r = .int row) (hlt : row < ns.length) :
      Due w d r (.tuple [.str "told", .tuple [.list ((readA w ns row).1.map Nd.data), .int ((readA w ns row).2 row : Nat)]])
theorem due_ex (w : W3) (d r : PyData) : ∃ e, Due w d r e := by
  cases h : wrongD 5000 w.boxes d with
  | some i => exact ⟨_, .sheet i h⟩
  | none =>
    cases h2 : isNum 0 ((lenD d : Int) - 1) r with
    | false => exact ⟨_, .value h h2⟩
    | true =>
      obtain ⟨ns, rfl, ok, hl⟩ := wrongD_none (by decide) h
      obtain ⟨i, rfl, h3, h4⟩ := num_nat h2 (by decide)
      have e : lenD (.list (ns.map Nd.data)) = ns.length := by show (ns.map Nd.data).length = ns.length; rw [List.length_map]
      rw [e] at h4
      exact ⟨_, .told ns i h rfl ok (by omega) rfl (by omega)⟩
theorem nd_data_inj {m n : Nd} (h : m.data = n.data) : m = n := by
  have : m.keys = n.keys := by rw [← Nd.keysD, ← Nd.keysD, h]
  exact keys_inj this
theorem nds_inj : ∀ {ms ns : List Nd}, ms.map Nd.data = ns.map Nd.data → ms = ns
  | [], [], _ => rfl
  | [], n :: ns, h => by simp at h
  | m :: ms, [], h => by simp at h
  | m :: ms, n :: ns, h => by
    rw [List.map_cons, List.map_cons] at h
    injection h with h1 h2
    rw [nd_data_inj h1, nds_inj h2]
theorem nd_sz (n : Nd) : sz n.data ≤ 4 := by
  unfold Nd.data
  rw [sz_tup, ks_sz]
  cases n <;> simp [Nd.keys]
theorem nds_sz (ns : List Nd) : szL (ns.map Nd.data) ≤ 4 * ns.length := by
  induction ns with
  | nil => rw [List.map_nil, szL_nil]; exact Nat.zero_le _
  | cons n ns ih =>
    rw [List.map_cons, szL_cons, List.length_cons]
    have := nd_sz n
    omega
theorem below_len (ns : List Nd) (rows : List Nat) : (belowF ns rows).length ≤ ns.length := by
  have := List.length_filter_le (marked ns rows) (List.range ns.length)
  rw [List.length_range] at this
  exact this
theorem readA_len (w : W3) (ns : List Nd) (row : Nat) : (readA w ns row).1.length ≤ 9 * ns.length := by
  have h1 := readF_len w ns (belowF ns [row]) ns (fun _ => 0)
  have h2 := below_len ns [row]
  unfold readA
  omega
theorem due_sz {w : W3} {d r e : PyData} (h : Due w d r e) : sz e ≤ 1000000 := by
  cases h with
  | sheet i h => rw [sz_tup, szL_cons, szL_cons, szL_nil]; unfold sz; decide
  | value h h2 => rw [sz_tup, szL_cons, szL_cons, szL_nil]; unfold sz; decide
  | told ns row h hd ok hl hr hlt =>
    have h1 := nds_sz (readA w ns row).1
    have h2 := readA_len w ns row
    rw [sz_tup, szL_cons, szL_cons, szL_nil, sz_tup, szL_cons, szL_cons, szL_nil, sz_lst]
    have e1 : ∀ x, sz (.str x) = 1 := fun x => by unfold sz; rfl
    have e2 : ∀ x, sz (.int x) = 1 := fun x => by unfold sz; rfl
    rw [e1, e2]
    omega
theorem due_sheet {w : W3} {d r e : PyData} {i : Int} (h : Due w d r e) (hi : wrongD 5000 w.boxes d = some i) : e = .tuple [.str "BadSheet", .int i] := by
  cases h with
  | sheet j h => rw [hi] at h; cases h; rfl
  | value h _ => rw [hi] at h; cases h
  | told _ _ h => rw [hi] at h; cases h
theorem due_value {w : W3} {d r e : PyData} (h : Due w d r e) (hi : wrongD 5000 w.boxes d = none) (h2 : isNum 0 ((lenD d : Int) - 1) r = false) : e = .tuple [.str "BadValue", .str "row"] := by
  cases h with
  | sheet j h => rw [hi] at h; cases h
  | value h _ => rfl
  | told ns row h hd ok hl hr hlt =>
    subst hd hr
    have el : lenD (.list (ns.map Nd.data)) = ns.length := by show (ns.map Nd.data).length = ns.length; rw [List.length_map]
    rw [el] at h2
    simp [isNum] at h2
    omega
theorem due_told {w : W3} {d r e : PyData} (h : Due w d r e) {ns : List Nd} {row : Nat} (hi : wrongD 5000 w.boxes d = none) (hd : d = .list (ns.map Nd.data)) (hr : r = .int (row : Nat)) (hlt : row < ns.length) :
    e = .tuple [.str "told", .tuple [.list ((readA w ns row).1.map Nd.data), .int ((readA w ns row).2 row : Nat)]] := by
  cases h with
  | sheet j h => rw [hi] at h; cases h
  | value h h2 =>
    subst hd hr
    have el : lenD (.list (ns.map Nd.data)) = ns.length := by show (ns.map Nd.data).length = ns.length; rw [List.length_map]
    rw [el] at h2
    simp [isNum] at h2
    omega
  | told ns' row' h hd' ok hl hr' hlt' =>
    rw [hd] at hd'
    have e1 : ns.map Nd.data = ns'.map Nd.data := by injection hd'
    have e2 := nds_inj e1
    rw [hr] at hr'
    have e3 : (row : Int) = row' := by injection hr'
    have e4 : row = row' := by omega
    subst e2 e4
    rfl
end LL

set_option Elab.async false
set_option linter.all false
set_option maxRecDepth 100000
set_option maxHeartbeats 400000
/-! LDw: a stream s and a book bk (a list b0 of nodes, their table b1) while formulas are drawn -/
namespace LL
open PySem PySem.Spec PyProof.Rows L2
variable [KW]
structure Dw (M : List Addr) (H : Hp) (s bk b0 b1 : Addr) (bx : Bool) (ns : List Nd) : Prop where
  str : StrAt M H s
  hbk : H bk = some (.lst [.ref b0, .ref b1])
  ms : s ∈ M
  kM : bk ∉ M
  s0 : s ≠ b0
  s1 : s ≠ b1
  B : BkN M H b0 b1 ns
  ok : okSheet bx ns
section
variable {M N : List Addr} {H H' : Hp} {s bk b0 b1 p : Addr} {bx : Bool} {ns : List Nd} {o : HO}
theorem Dw.ks (x : Dw M H s bk b0 b1 bx ns) : bk ∉ [s] := by simp; exact fun z => x.kM (by rw [z]; exact x.ms)
theorem Dw.kb (x : Dw M H s bk b0 b1 bx ns) : bk ∉ [b0, b1] := fun z => by
  rcases List.mem_cons.mp z with z | z
  · exact x.kM (by rw [z]; exact x.B.m0)
  · exact x.kM (by rw [List.mem_singleton.mp z]; exact x.B.m1)
theorem Dw.next (x : Dw M H s bk b0 b1 bx ns) (a : Adv [s] H H') (hs : StrAt M H' s) : Dw M H' s bk b0 b1 bx ns :=
  ⟨hs, a _ _ x.ks x.hbk, x.ms, x.kM, x.s0, x.s1, x.B.adv a (by simpa using x.s0.symm) (by simpa using x.s1.symm) (by simp [x.ms]) (by simpa using hs.here), x.ok⟩
theorem Dw.same (x : Dw M H s bk b0 b1 bx ns) (a : Adv [] H H') : Dw M H' s bk b0 b1 bx ns :=
  ⟨x.str.same a, a.same _ _ x.hbk, x.ms, x.kM, x.s0, x.s1, x.B.same a, x.ok⟩
theorem Dw.free (x : Dw M H s bk b0 b1 bx ns) (h : H p = none) : p ∉ M ∧ p ≠ s ∧ p ≠ bk ∧ p ≠ b0 ∧ p ≠ b1 := by
  have hm : p ∉ M := fun z => x.B.al p z h
  refine ⟨hm, fun z => hm (by rw [z]; exact x.ms), fun z => ?_, fun z => hm (by rw [z]; exact x.B.m0), fun z => hm (by rw [z]; exact x.B.m1)⟩
  rw [z, x.hbk] at h; cases h
theorem Dw.fresh (x : Dw M H s bk b0 b1 bx ns) (h : H p = none) : Dw (p :: M) (upd H p o) s bk b0 b1 bx ns := by
  have hf := x.free h
  exact ⟨(x.str.fresh h).same (Adv.new h), by rw [upd_ne hf.2.2.1.symm]; exact x.hbk, by simp [x.ms], by simp [hf.2.2.1.symm, x.kM], x.s0, x.s1, x.B.fresh h, x.ok⟩
theorem Dw.less (x : Dw M H s bk b0 b1 bx ns) (h : ∀ b ∈ N, b ∈ M) (ms : s ∈ N) (m0 : b0 ∈ N) (m1 : b1 ∈ N) : Dw N H s bk b0 b1 bx ns :=
  ⟨x.str.less h, x.hbk, ms, fun z => x.kM (h _ z), x.s0, x.s1, x.B.less h m0 m1, x.ok⟩
/-- an object of M that is neither the stream nor the book is changed -/
theorem Dw.put (x : Dw M H s bk b0 b1 bx ns) (hp : p ∈ M) (n0 : p ≠ s) (n1 : p ≠ b0) (n2 : p ≠ b1) : Dw M (upd H p o) s bk b0 b1 bx ns := by
  have a : Adv [p] H (upd H p o) := Adv.set (by simp)
  have kp : bk ≠ p := fun z => x.kM (by rw [z]; exact hp)
  exact ⟨x.str.adv a (by simpa using n0.symm) (by simp [hp]), by rw [upd_ne kp]; exact x.hbk, x.ms, x.kM, x.s0, x.s1, x.B.adv a (by simpa using n1.symm) (by simpa using n2.symm) (by simp [hp]) (by simp [upd_same]), x.ok⟩
theorem Dw.row {n : Nd} (x : Dw M H s bk b0 b1 bx ns) (hn : n.ok bx ns.length = true) (a : Adv [b0, b1] H H') (B : BkN M H' b0 b1 (rowF ns n).2) : Dw M H' s bk b0 b1 bx (rowF ns n).2 :=
  ⟨x.str.adv a (notin2 x.s0 x.s1) (by simp [x.B.m0, x.B.m1]), a _ _ x.kb x.hbk, x.ms, x.kM, x.s0, x.s1, B, rowF_ok x.ok hn⟩
theorem a_s {b : Addr} {c : Addr} (a : Adv [s] H H') : Adv [s, b, c] H H' := a.more (by simp)
theorem a_b {b c : Addr} (a : Adv [b, c] H H') : Adv [s, b, c] H H' := a.more (by simp +contextual)
end
/-- what a draw hands back -/
structure Dn (c : Nat) (M : List Addr) (s bk b0 b1 : Addr) (bx : Bool) (ns : List Nd) (H : Hp) (r : Nat) (ns' : List Nd) (H' : Hp) : Prop where
  pre : ns <+: ns'
  lt : r < ns'.length
  le : ns'.length ≤ ns.length + c
  D : Dw M H' s bk b0 b1 bx ns'
  a : Adv [s, b0, b1] H H'
theorem Dn.ge {c : Nat} {M : List Addr} {s bk b0 b1 : Addr} {bx : Bool} {ns : List Nd} {H : Hp} {r : Nat} {ns' : List Nd} {H' : Hp} (x : Dn c M s bk b0 b1 bx ns H r ns' H') : ns.length ≤ ns'.length := x.pre.length_le
end LL

set_option Elab.async false
set_option linter.all false
set_option maxRecDepth 100000
set_option maxHeartbeats 400000
/-! LOk: a reading keeps a sheet right -/
namespace LL
open PySem PySem.Spec PyProof.Rows L2
variable [KW]
theorem denyF_ok {bx : Bool} {ns : List Nd} {r : Nat} (ok : okSheet bx ns) (h : r < ns.length) : okSheet bx (denyF ns r).2 ∧ (denyF ns r).1 < (denyF ns r).2.length := by
  have o1 : okSheet bx (rowF ns .no).2 := rowF_ok ok rfl
  have l1 := rowF_lt ns .no
  have p1 := (rowF_pre ns .no).length_le
  unfold denyF
  exact ⟨rowF_ok o1 (by simp only [Nd.ok, Bool.and_eq_true, decide_eq_true_eq]; omega), rowF_lt _ _⟩
theorem moved_ok {bx : Bool} {ns : List Nd} {n : Nd} {f : Nat → Nat} {i : Nat} (hn : n.ok bx i = true) (hf : ∀ p ∈ n.parts, f p < ns.length) : (n.moved f).ok bx ns.length = true := by
  cases n with
  | no => rfl
  | letter j => exact hn
  | bin o j k =>
    simp only [Nd.moved, Nd.ok, Bool.and_eq_true, decide_eq_true_eq]
    exact ⟨hf j (by simp [Nd.parts]), hf k (by simp [Nd.parts])⟩
  | box j =>
    simp only [Nd.moved, Nd.ok, Bool.and_eq_true, decide_eq_true_eq] at hn ⊢
    exact ⟨hn.1, hf j (by simp [Nd.parts])⟩
theorem step1 {bx : Bool} {ns : List Nd} {n : Nd} (ok : okSheet bx ns) (hn : n.ok bx ns.length = true) : okSheet bx (rowF ns n).2 ∧ (rowF ns n).1 < (rowF ns n).2.length ∧ ns.length ≤ (rowF ns n).2.length :=
  ⟨rowF_ok ok hn, rowF_lt _ _, (rowF_pre ns n).length_le⟩
theorem stepF_ok {w : W3} {bx : Bool} {ns : List Nd} {n : Nd} {i : Nat} {f : Nat → Nat} (hw : w = .neg ∨ bx = true) (ok : okSheet bx ns) (hn : n.ok bx i = true) (hi : i < ns.length) (hf : ∀ p ∈ n.parts, f p < ns.length) :
    okSheet bx (stepF w ns i n f).2 ∧ (stepF w ns i n f).1 < (stepF w ns i n f).2.length := by
  have hm := moved_ok (ns := ns) hn hf
  have plain : okSheet bx (rowF ns (n.moved f)).2 ∧ (rowF ns (n.moved f)).1 < (rowF ns (n.moved f)).2.length := ⟨(step1 ok hm).1, (step1 ok hm).2.1⟩
  unfold stepF
  split
  · exact ⟨ok, hi⟩
  · exact ⟨ok, hi⟩
  · obtain ⟨o1, l1⟩ := denyF_ok ok hi
    exact denyF_ok o1 l1
  · rcases hw with hw | hw
    · cases hw
    · have := step1 ok (n := .box i) (by simp only [Nd.ok, Bool.and_eq_true, decide_eq_true_eq]; exact ⟨hw, hi⟩)
      exact ⟨this.1, this.2.1⟩
  · rename_i j k
    have hj := hf j (by simp [Nd.parts])
    have hk := hf k (by simp [Nd.parts])
    obtain ⟨o1, l1⟩ := denyF_ok ok hj
    have p1 := (denyF_pre ns (f j)).length_le
    obtain ⟨o2, l2⟩ := denyF_ok o1 (r := f k) (by omega)
    have p2 := (denyF_pre (denyF ns (f j)).2 (f k)).length_le
    obtain ⟨o3, l3, p3⟩ := step1 o2 (n := .bin .and (denyF ns (f j)).1 (denyF (denyF ns (f j)).2 (f k)).1) (by simp only [Nd.ok, Bool.and_eq_true, decide_eq_true_eq]; omega)
    exact denyF_ok o3 l3
  · rename_i j k
    obtain ⟨o1, l1, p1⟩ := step1 ok (n := .bin .imp (f j) (f k)) hm
    rcases hw with hw | hw
    · cases hw
    · have := step1 o1 (n := .box (rowF ns (.bin .imp (f j) (f k))).1) (by simp only [Nd.ok, Bool.and_eq_true, decide_eq_true_eq]; exact ⟨hw, l1⟩)
      exact ⟨this.1, this.2.1⟩
  · rename_i j
    have hj := hf j (by simp [Nd.parts])
    obtain ⟨o1, l1, p1⟩ := step1 ok (n := .box (f j)) hm
    have := step1 o1 (n := .bin .and (f j) (rowF ns (.box (f j))).1) (by simp only [Nd.ok, Bool.and_eq_true, decide_eq_true_eq]; omega)
    exact ⟨this.1, this.2.1⟩
  · exact plain
theorem readF_ok {w : W3} {bx : Bool} {old : List Nd} (hw : w = .neg ∨ bx = true) (oo : okSheet bx old) : ∀ (l : List Nat) (ns : List Nd) (f : Nat → Nat) (done : List Nat), okSheet bx ns → old.length ≤ ns.length → (∀ i ∈ done, f i < ns.length) →
    (∀ i ∈ l, i < old.length) → (∀ (a : List Nat) (i : Nat) (b : List Nat) (n : Nd), l = a ++ i :: b → old[i]? = some n → ∀ p ∈ n.parts, p ∈ done ++ a) → okSheet bx (readF w old l ns f).1
  | [], ns, f, done, ok, _, _, _, _ => ok
  | i :: l, ns, f, done, ok, hl, hd, hi, hp => by
    have hil := hi i List.mem_cons_self
    have hni : old[i]? = some old[i] := List.getElem?_eq_getElem hil
    have hs := stepF_ok (w := w) (ns := ns) (n := old[i]) (i := i) (f := f) hw ok (oo.2 i _ hni) (by omega) (fun p hp' => hd p (by have := hp [] i l _ rfl hni p hp'; simpa using this))
    have hpre := (stepF_pre w ns i old[i] f).length_le
    unfold readF
    rw [hni]
    refine readF_ok hw oo l _ _ (done ++ [i]) hs.1 (by show old.length ≤ (stepF w ns i old[i] f).2.length; omega) (fun j hj => ?_) (fun j hj => hi j (List.mem_cons_of_mem _ hj)) (fun a j b n e hn p hp' => ?_)
    · show (if j = i then (stepF w ns i old[i] f).1 else f j) < (stepF w ns i old[i] f).2.length
      by_cases e : j = i
      · rw [if_pos e]; exact hs.2
      · rw [if_neg e]
        rcases List.mem_append.mp hj with hj | hj
        · have := hd j hj; omega
        · exact absurd (List.mem_singleton.mp hj) e
    · have := hp (i :: a) j b n (by rw [e]; rfl) hn p hp'
      rw [List.append_assoc]
      exact this
theorem readA_ok {w : W3} {bx : Bool} {ns : List Nd} {row : Nat} (hw : w = .neg ∨ bx = true) (ok : okSheet bx ns) : okSheet bx (readA w ns row).1 := by
  refine readF_ok hw ok _ ns _ [] ok (Nat.le_refl _) (fun i hi => nomatch hi) (fun i hi => (below_mem.mp hi).1) (fun a i b n e hn p hp => ?_)
  have hm : i ∈ belowF ns [row] := by rw [e]; simp
  obtain ⟨h1, h2⟩ := below_parts ok hm hn p hp
  have hr : (belowF ns [row])[a.length]? = some i := by rw [e]; simp
  have := below_take hr h1 h2
  rw [e, List.take_append_of_le_length (Nat.le_refl _), List.take_length] at this
  simpa using this
theorem readA_pre (w : W3) (ns : List Nd) (row : Nat) : ns <+: (readA w ns row).1 := readF_pre w ns _ ns _
theorem Dw.read {M : List Addr} {H H' : Hp} {s bk b0 b1 : Addr} {bx : Bool} {ns : List Nd} {w : W3} {row : Nat} (x : Dw M H s bk b0 b1 bx ns) (hw : w = .neg ∨ bx = true) (a : Adv [b0, b1] H H') (B : BkN M H' b0 b1 (readA w ns row).1) : Dw M H' s bk b0 b1 bx (readA w ns row).1 :=
  ⟨x.str.adv a (notin2 x.s0 x.s1) (by simp [x.B.m0, x.B.m1]), a _ _ x.kb x.hbk, x.ms, x.kM, x.s0, x.s1, B, readA_ok hw x.ok⟩
/-- a new book -/
theorem Dw.new {M : List Addr} {H : Hp} {s b0 b1 bk : Addr} {bx : Bool} (hs : StrAt M H s) (ms : s ∈ M) (hal : ∀ b ∈ M, H b ≠ none) (n0 : H b0 = none) (n1 : (upd H b0 (.lst [])) b1 = none) (nk : (upd (upd H b0 (.lst [])) b1 (dxo b1 [])) bk = none) :
    Dw (b1 :: b0 :: M) (upd (upd (upd H b0 (.lst [])) b1 (dxo b1 [])) bk (.lst [.ref b0, .ref b1])) s bk b0 b1 bx [] := by
  have e01 : b0 ≠ b1 := ne_of_none (upd_same (H := H)) n1
  have a0 : Adv [] H (upd H b0 (.lst [])) := Adv.new n0
  have a1 : Adv [] (upd H b0 (.lst [])) (upd (upd H b0 (.lst [])) b1 (dxo b1 [])) := Adv.new n1
  have a2 : Adv [] _ (upd (upd (upd H b0 (.lst [])) b1 (dxo b1 [])) bk (.lst [.ref b0, .ref b1])) := Adv.new nk
  have h0 : (upd (upd H b0 (.lst [])) b1 (dxo b1 [])) b0 = some (.lst []) := a1.same _ _ upd_same
  have h1 : (upd (upd H b0 (.lst [])) b1 (dxo b1 [])) b1 = some (dxo b1 []) := upd_same
  have k0 : bk ≠ b0 := (ne_of_none h0 nk).symm
  have k1 : bk ≠ b1 := (ne_of_none h1 nk).symm
  have nkH : H bk = none := a0.free (by simp) (a1.free (by simp) nk)
  have s0 : s ≠ b0 := fun z => hal s ms (by rw [z]; exact n0)
  have s1 : s ≠ b1 := fun z => hal s ms (by rw [z]; exact a0.free (by simp) n1)
  refine ⟨(((hs.fresh n0).same a0).fresh n1).same (a1.trans a2), upd_same, by simp [ms], fun z => ?_, s0, s1, ⟨⟨[], a2.same _ _ h0, .nil⟩, (Tab.new h1).same a2, by simp, by simp, e01, fun b hb => ?_⟩, ⟨List.nodup_nil, fun i n hi => by simp at hi⟩⟩
  · rcases List.mem_cons.mp z with z | z
    · exact k1 z
    · rcases List.mem_cons.mp z with z | z
      · exact k0 z
      · exact hal bk z nkH
  · rcases List.mem_cons.mp hb with z | hb
    · rw [z, a2.same _ _ h1]; simp
    · rcases List.mem_cons.mp hb with z | hb
      · rw [z, a2.same _ _ h0]; simp
      · cases e : H b with
        | none => exact absurd e (hal b hb)
        | some o => rw [((a0.trans a1).trans a2).same _ _ e]; simp
theorem nd_dep (n : Nd) : dep n.data ≤ 1 := by
  unfold Nd.data
  rw [dep_tup, ks_dep]
  omega
theorem new_at {H : Hp} {p : Addr} {o : HO} (_ : H p = none) : (upd H p o) p = some o := upd_same
theorem sz_non : sz .none = 1 := by unfold sz; rfl
theorem dep_non : dep .none = 0 := by unfold dep; rfl
/-! ### small data -/
def scV : V → Bool
  | .non => true
  | .bl _ => true
  | .int _ => true
  | .str _ => true
  | _ => false
def scD : V → PyData
  | .bl b => .bool b
  | .int i => .int i
  | .str x => .str x
  | _ => .none
theorem sc_is {M : List Addr} {H : Hp} {v : V} (h : scV v = true) : Is M H (scD v) v := by
  cases v with
  | non => exact Is.non
  | bl b => exact Is.bl
  | int i => exact Is.int
  | str x => exact Is.str
  | _ => cases h
theorem sc_sz (v : V) : sz (scD v) = 1 := by cases v <;> (unfold scD sz; rfl)
theorem sc_dep (v : V) : dep (scD v) = 0 := by cases v <;> (unfold scD dep; rfl)
/-- a small datum -/
def SmD (M : List Addr) (H : Hp) (v : V) : Prop := ∃ d, Is M H d v ∧ sz d ≤ 10 ∧ dep d ≤ 3
def SmDs (M : List Addr) (H : Hp) (vs : List V) : Prop := ∃ ds, IsDs M H ds vs ∧ ∀ d ∈ ds, sz d ≤ 10 ∧ dep d ≤ 3
section
variable {M N : List Addr} {H H' : Hp} {v : V} {vs ws : List V} {p : Addr}
theorem SmD.adv (x : SmD M H v) (a : Adv M H H') : SmD M H' v := let ⟨d, h, z⟩ := x; ⟨d, h.adv a, z⟩
theorem SmDs.adv (x : SmDs M H vs) (a : Adv M H H') : SmDs M H' vs := let ⟨d, h, z⟩ := x; ⟨d, h.adv a, z⟩
theorem SmD.sc (h : scV v = true) : SmD M H v := ⟨scD v, sc_is h, by rw [sc_sz]; decide, by rw [sc_dep]; decide⟩
theorem SmDs.nil : SmDs M H [] := ⟨[], .nil, by simp⟩
theorem SmDs.cons (x : SmD M H v) (y : SmDs M H vs) : SmDs M H (v :: vs) := by
  obtain ⟨d, h, z⟩ := x
  obtain ⟨ds, hs, zs⟩ := y
  refine ⟨d :: ds, .cons h hs, fun e he => ?_⟩
  rcases List.mem_cons.mp he with rfl | he
  · exact z
  · exact zs e he
theorem SmDs.nds {ns : List Nd} (h : IsDs M H (ns.map Nd.data) vs) : SmDs M H vs := ⟨_, h, fun d hd => by
  obtain ⟨n, _, rfl⟩ := List.mem_map.mp hd
  have := nd_sz n
  have := nd_dep n
  omega⟩
theorem SmDs.app (x : SmDs M H vs) (y : SmDs M H ws) : SmDs M H (vs ++ ws) := by
  obtain ⟨ds, h, z⟩ := x
  obtain ⟨es, hs, zs⟩ := y
  refine ⟨ds ++ es, h.app hs, fun e he => ?_⟩
  rcases List.mem_append.mp he with he | he
  · exact z e he
  · exact zs e he
theorem SmDs.get (x : SmDs M H vs) {i : Nat} (h : vs[i]? = some v) : SmD M H v := by
  obtain ⟨ds, hs, zs⟩ := x
  obtain ⟨d, hd, hi⟩ := hs.getV h
  exact ⟨d, hi, zs d (List.mem_of_getElem? hd)⟩
theorem SmDs.mem (x : SmDs M H vs) (h : v ∈ vs) : SmD M H v := let ⟨_, hi⟩ := List.getElem?_of_mem h; x.get hi
theorem sc_list : ∀ {xs : List V}, xs.all scV = true → IsDs M H (xs.map scD) xs
  | [], _ => .nil
  | x :: xs, h => by
    rw [List.all_cons, Bool.and_eq_true] at h
    exact .cons (sc_is h.1) (sc_list h.2)
theorem sc_szL : ∀ xs : List V, szL (xs.map scD) = xs.length
  | [] => szL_nil
  | x :: xs => by rw [List.map_cons, szL_cons, sc_szL xs, sc_sz, List.length_cons]; omega
theorem sc_depL : ∀ xs : List V, depL (xs.map scD) = 0
  | [] => depL_nil
  | x :: xs => by rw [List.map_cons, depL_cons, sc_depL xs, sc_dep]; rfl
/-- a new tuple of scalars -/
theorem sm_tup {Q : VK} {xs : List V} (hal : ∀ b ∈ M, H b ≠ none) (hx : xs.all scV = true) (hl : xs.length ≤ 9) (k : ∀ p H', SmD M H' (.ref p) → Adv [] H H' → (∀ b ∈ M, H' b ≠ none) → H' p = some (.tup xs) → Q (.ref p) H') :
    xs.length ≤ sizeLine ∧ ∀ p, H p = none → Q (.ref p) (upd H p (.tup xs)) :=
  ⟨by rw [sizeLine_eq]; omega, fun p np => by
    have a : Adv [] H (upd H p (.tup xs)) := Adv.new np
    exact k p _ ⟨.tuple (xs.map scD), Is.tup upd_same (not_mem_new hal np) (sc_list hx), by rw [sz_tup, sc_szL]; omega, by rw [dep_tup, sc_depL]; omega⟩ a (alloc_adv hal a (by simp)) upd_same⟩
end
/-! ### rows: tuples of keys -/
def kT (ks : List Key) : PyData := .tuple (ks.map keyDt)
def RwD (M : List Addr) (H : Hp) (v : V) : Prop := ∃ ks : List Key, ks.length ≤ 3 ∧ Is M H (kT ks) v
def RwDs (M : List Addr) (H : Hp) (vs : List V) : Prop := ∃ kss : List (List Key), IsDs M H (kss.map kT) vs ∧ ∀ ks ∈ kss, ks.length ≤ 3
section
variable {M N : List Addr} {H H' : Hp} {v : V} {vs ws : List V} {p : Addr}
theorem RwD.adv (x : RwD M H v) (a : Adv M H H') : RwD M H' v := let ⟨d, z, h⟩ := x; ⟨d, z, h.adv a⟩
theorem RwDs.adv (x : RwDs M H vs) (a : Adv M H H') : RwDs M H' vs := let ⟨d, h, z⟩ := x; ⟨d, h.adv a, z⟩
theorem RwDs.fresh (x : RwDs M H vs) (h : H p = none) : RwDs (p :: M) H vs := let ⟨d, y, z⟩ := x; ⟨d, y.fresh h, z⟩
theorem RwDs.less (x : RwDs M H vs) (h : ∀ b ∈ N, b ∈ M) : RwDs N H vs := let ⟨d, y, z⟩ := x; ⟨d, y.less h, z⟩
theorem RwDs.nil : RwDs M H [] := ⟨[], .nil, by simp⟩
theorem RwDs.cons (x : RwD M H v) (y : RwDs M H vs) : RwDs M H (v :: vs) := by
  obtain ⟨d, z, h⟩ := x
  obtain ⟨ds, hs, zs⟩ := y
  refine ⟨d :: ds, .cons h hs, fun e he => ?_⟩
  rcases List.mem_cons.mp he with rfl | he
  · exact z
  · exact zs e he
theorem RwDs.app (x : RwDs M H vs) (y : RwDs M H ws) : RwDs M H (vs ++ ws) := by
  obtain ⟨ds, h, z⟩ := x
  obtain ⟨es, hs, zs⟩ := y
  refine ⟨ds ++ es, by rw [List.map_append]; exact h.app hs, fun e he => ?_⟩
  rcases List.mem_append.mp he with he | he
  · exact z e he
  · exact zs e he
theorem RwDs.get (x : RwDs M H vs) {i : Nat} (h : vs[i]? = some v) : RwD M H v := by
  obtain ⟨ds, hs, zs⟩ := x
  obtain ⟨d, hd, hi⟩ := hs.getV h
  rw [List.getElem?_map, Option.map_eq_some_iff] at hd
  obtain ⟨ks, hk, rfl⟩ := hd
  exact ⟨ks, zs ks (List.mem_of_getElem? hk), hi⟩
theorem RwD.sm (x : RwD M H v) : SmD M H v := by
  obtain ⟨ks, z, h⟩ := x
  exact ⟨_, h, by unfold kT; rw [sz_tup, ks_sz]; omega, by unfold kT; rw [dep_tup, ks_dep]; omega⟩
theorem RwD.at_ (x : RwD M H v) : ∃ (a : Addr) (ks : List Key), v = .ref a ∧ Tp M H a (ks.map kV) ∧ ks.length ≤ 3 := by
  obtain ⟨ks, z, h⟩ := x
  obtain ⟨a, vs, rfl, ha, hs⟩ := h.tupE
  rw [ks_of _ _ hs] at ha
  exact ⟨a, ks, rfl, ha, z⟩
theorem RwDs.sm (x : RwDs M H vs) : SmDs M H vs := by
  obtain ⟨kss, h, z⟩ := x
  refine ⟨_, h, fun d hd => ?_⟩
  obtain ⟨ks, hk, rfl⟩ := List.mem_map.mp hd
  have := z ks hk
  unfold kT
  rw [sz_tup, ks_sz, dep_tup, ks_dep]
  omega
theorem RwDs.nds {ns : List Nd} (h : IsDs M H (ns.map Nd.data) vs) : RwDs M H vs := ⟨ns.map Nd.keys, by rw [List.map_map]; exact h, fun ks hk => by
  obtain ⟨n, _, rfl⟩ := List.mem_map.mp hk
  cases n <;> simp [Nd.keys]⟩
theorem rw_new {ks : List Key} (hal : ∀ b ∈ M, H b ≠ none) (np : H p = none) (hl : ks.length ≤ 3) : RwD M (upd H p (.tup (ks.map kV))) (.ref p) :=
  ⟨ks, hl, nd_data upd_same (not_mem_new hal np)⟩
theorem SmDs.take (x : SmDs M H vs) (i : Nat) : SmDs M H (vs.take i) := by
  obtain ⟨ds, h, z⟩ := x
  refine ⟨ds.take i, ?_, fun d hd => z d (List.mem_of_mem_take hd)⟩
  refine IsDs.of_get (by rw [List.length_take, List.length_take, h.len]) fun j d v h1 h2 => ?_
  rw [List.getElem?_take] at h1 h2
  split at h1
  · rename_i hj
    rw [if_pos hj] at h2
    obtain ⟨v', e, hv⟩ := h.get h1
    rw [h2] at e
    cases e
    exact hv
  · cases h1
theorem SmDs.drop (x : SmDs M H vs) (i : Nat) : SmDs M H (vs.drop i) := by
  obtain ⟨ds, h, z⟩ := x
  exact ⟨ds.drop i, h.drop i, fun d hd => z d (List.mem_of_mem_drop hd)⟩
theorem SmDs.cut (x : SmDs M H vs) (lo hi : Option Int) : SmDs M H (cutV vs lo hi) := by
  unfold cutV
  exact (x.drop _).take _
theorem cut_len (vs : List V) (lo hi : Option Int) : (cutV vs lo hi).length ≤ vs.length := by
  unfold cutV
  rw [List.length_take, List.length_drop]
  omega
theorem SmDs.fresh (x : SmDs M H vs) (h : H p = none) : SmDs (p :: M) H vs := let ⟨d, y, z⟩ := x; ⟨d, y.fresh h, z⟩
theorem SmDs.of_sc {xs : List V} (h : xs.all scV = true) : SmDs M H xs := by
  refine ⟨xs.map scD, sc_list h, fun d hd => ?_⟩
  obtain ⟨x, _, rfl⟩ := List.mem_map.mp hd
  rw [sc_sz, sc_dep]
  omega
theorem sm_lst {l : Addr} {ks : List Key} (h : H l = some (.lst (ks.map kV))) (hl : l ∉ M) (hz : ks.length ≤ 3) : SmD M H (.ref l) :=
  ⟨.list (ks.map keyDt), Is.lst h hl (ks_data ks), by rw [sz_lst, ks_sz]; omega, by rw [dep_lst, ks_dep]; omega⟩
end
theorem depL_of {k : Nat} : ∀ {ds : List PyData}, (∀ d ∈ ds, dep d ≤ k) → depL ds ≤ k := fun h => depL_le h
theorem SmDs.lst {M : List Addr} {H : Hp} {vs : List V} {l : Addr} (x : SmDs M H vs) (h : H l = some (.lst vs)) (hl : l ∉ M) (hz : vs.length ≤ 90000) : ∃ d, Is M H d (.ref l) ∧ sz d ≤ 1000000 ∧ dep d ≤ 4 := by
  obtain ⟨ds, hs, zs⟩ := x
  have := hs.len
  have h1 := szL_le (k := 10) (fun d hd => (zs d hd).1)
  have h2 := depL_le (k := 3) (fun d hd => (zs d hd).2)
  exact ⟨.list ds, Is.lst h hl hs, by rw [sz_lst]; omega, by rw [dep_lst]; omega⟩
end LL

set_option Elab.async false
set_option linter.all false
set_option maxRecDepth 100000
set_option maxHeartbeats 4000000
/-! set(list of ints), sorted of a set of ints, of any size below 4,095 -/
namespace LL
open PySem PySem.Spec PyProof.Rows L2
section
variable {P : Program} {w : World} {A : Around} {E : Value → Shared → Prop} {s : Shared}
set_option maxHeartbeats 3200000 in
theorem call_set_listI {l : Addr} {items : Array Value} (ns : List Int) {Q : Value → Shared → Prop} (hh : A.handled = none) (hl : s.heap.IsList l items) (hit : IntsAre items.toList ns) (hb : ns.length + 1 < scanBound)
    (h : ∀ (h' : Heap) (tk c : Nat), SetR w h' s.heap.objs.size (fun j => decide (j ∈ ns)) c → c ≤ ns.length → (∀ b o, s.heap.get? b = some o → h'.get? b = some o) → Q (.ref s.heap.objs.size) { s with heap := h', toks := tk }) :
    wpAny (model P w) A (call (.type "set") [.ref l]) Q E s := by
  have hisz : items.size = ns.length := by
    have q := IntsAre.length hit
    rw [Array.length_toList] at q
    exact q
  obtain ⟨c, tl, hmro⟩ := F.called_set.mro
  have hmade := F.called_set.made
  have hsub := F.called_set.sub
  refine wpAny_call (codeAny_of_tree ?_)
  show wpAny _ _ (callAny (.type "set") _) _ _ _
  refine wpAny_pure ⟨Code.quiet_builtin _ (by decide +kernel), codeAny_builtin F.entry_type_call ?_⟩
  rw [Around.under_plain (weight_type_call_type "set" [.ref l] []) rfl]
  have h1 := F.called_set.notType
  have h2 := F.called_set.canCreate
  have hct := F.typeCall_set_1 (.ref l)
  repeat (any_goals (first | assumption | wp_step))

  refine codeAny_mono (code_set_led1 (.ref l) (E := E) (Q₁ := fun obj s₁ => obj = .ref s.heap.objs.size ∧ s₁ = { s with heap := s.heap.push { cls := .type "set", dict := none, data := .set #[] 0 (.fresh 0 0 (!w.params.followText "set-order")) } }) ⟨rfl, rfl⟩) fun r s₁ hr => ?_
  cases r with
  | error e => exact hr
  | ok fl =>
    cases fl with
    | ret obj =>
      obtain ⟨rfl, rfl⟩ := hr
      have hS : (s.heap.push { cls := .type "set", dict := none, data := .set #[] 0 (.fresh 0 0 (!w.params.followText "set-order")) }).get? s.heap.objs.size = some { cls := .type "set", dict := none, data := .set #[] 0 (.fresh 0 0 (!w.params.followText "set-order")) } := Heap.get?_push_size _ rfl
      have hT : Shared.TypeIs { s with heap := s.heap.push { cls := .type "set", dict := none, data := .set #[] 0 (.fresh 0 0 (!w.params.followText "set-order")) } } (.ref s.heap.objs.size) "set" := ⟨_, hS, rfl⟩
      have hli := F.called_set.init.lookup
      have hbi := F.called_set.init.bind (.ref s.heap.objs.size)
      repeat (any_goals (first | assumption | wp_step))

      refine codeAny_mono (codeAny_call_builtin (R := wants (fun r s₂ => r = .none ∧ ∃ h' tk c, s₂ = { s with heap := h', toks := tk } ∧ SetR w h' s.heap.objs.size (fun j => decide (j ∈ ns)) c ∧ c ≤ ns.length ∧
          (∀ b o, s.heap.get? b = some o → h'.get? b = some o)) E) F.called_set.init.plain F.entry_set_init (check_set_init_1 hT ?_)) fun r₂ s₂ hr₂ => ?_
      · obtain ⟨ol, hol, hcl, nl, hdl⟩ := hl
        obtain ⟨ocls, odict, odata, oslots⟩ := ol
        simp only at hcl hdl
        subst hcl; subst hdl
        have hol' : (s.heap.push { cls := .type "set", dict := none, data := .set #[] 0 (.fresh 0 0 (!w.params.followText "set-order")) }).get? l = some { cls := .type "list", dict := odict, data := .seq items nl, slots := oslots } := Heap.get?_push_of_some _ hol
        have hsls := F.sub_list_set
        have hslf := F.sub_list_frozenset
        have hne : (Value.type "list" == Value.type "dict") = false := by decide
        have hl1 : (s.heap.push { cls := .type "set", dict := none, data := .set #[] 0 (.fresh 0 0 (!w.params.followText "set-order")) }).IsList l items := ⟨_, hol', rfl, nl, rfl⟩
        unfold Builtin.«set.__init__» noKeywords Builtin.Frozenset.updateFrom
        generalize hPI : pyIter = PI
        wp_walk
        subst hPI

        refine wpAny_pyIter_list hl1 ?_
        refine wpAny_bind (wpAny_runValue ?_)
        have hlS : l < s.heap.objs.size := Heap.lt_size hol
        have hh3 : A.in1.in1.in1.handled = none := by simp [hh]
        have hneI : l ≠ (s.heap.push { cls := .type "set", dict := none, data := .set #[] 0 (.fresh 0 0 (!w.params.followText "set-order")) }).objs.size := by
          rw [Heap.size_push]; exact Nat.ne_of_lt (Nat.lt_succ_of_lt hlS)
        have hSf : s.heap.objs.size ∉ [(s.heap.push { cls := .type "set", dict := none, data := .set #[] 0 (.fresh 0 0 (!w.params.followText "set-order")) }).objs.size, l] := by
          rw [Heap.size_push]; simp only [List.mem_cons, List.mem_singleton, List.not_mem_nil, or_false, not_or]
          exact ⟨Nat.ne_of_lt (Nat.lt_succ_self _), Nat.ne_of_gt hlS⟩
        have hval : ∀ (i : Nat) (v : Value), items[i]? = some v → ∃ k t, ns[i]? = some k ∧ v = .int k t := fun i v hv => by
          have hi : i < ns.length := by rw [← hisz]; exact (Array.getElem?_eq_some_iff.mp hv).1
          obtain ⟨t, e⟩ := PyProof.Rows.IntsAre.int_at hit i v (by rw [Array.getElem?_toList]; exact hv)
          refine ⟨ns[i], t, List.getElem?_eq_getElem hi, ?_⟩
          rw [e, List.getD_eq_getElem?_getD, List.getElem?_eq_getElem hi] <;> rfl
        refine set_update_ints ((Walks.list hh3 _ l hneI items).toS) s.heap.objs.size
          hSf ns hisz hb hval (items.size - 0) 0 _ (by omega) (Nat.zero_le _)
          ⟨⟨_, Heap.get?_push_size _ rfl, rfl, rfl⟩, (hl1.push _)⟩ ?hS0 ?hR
        case hS0 =>
          have hget : ((s.heap.push { cls := .type "set", dict := none, data := .set #[] 0 (.fresh 0 0 (!w.params.followText "set-order")) }).push { cls := .type "list_iterator", data := .fields #[.ref l, .int 0 0] }).get? s.heap.objs.size
              = some { cls := .type "set", dict := none, data := .set #[] 0 (.fresh 0 0 (!w.params.followText "set-order")) } := Heap.get?_push_of_some _ hS
          exact ⟨0, Nat.le_refl 0, setR_new_at hget⟩
        case hR =>
          intro s' c' hm hc' hS'
          obtain ⟨h', g2, d', tk', os'⟩ := s'
          have eg : g2 = s.gens := hm.gens
          have ed : d' = s.drawn := hm.drawn
          have eo : os' = s.os := hm.os
          subst eg; subst ed; subst eo
          show wpAny _ _ _ _ _ _
          refine wpAny_pure ?_
          show wpAny _ _ (ret Value.none) _ _ _
          rw [hisz] at hc'
          refine wpAny_pure ⟨rfl, h', tk', c', rfl, hS', hc', fun b o e => ?_⟩
          have hb0 : b < s.heap.objs.size := Heap.lt_size e
          have hb1 : b ≠ s.heap.objs.size := Nat.ne_of_lt hb0
          have hb2 : b ≠ (s.heap.push { cls := .type "set", dict := none, data := .set #[] 0 (.fresh 0 0 (!w.params.followText "set-order")) }).objs.size := by
            rw [Heap.size_push]; exact Nat.ne_of_lt (Nat.lt_succ_of_lt hb0)
          exact hm.heap b o (by simp only [List.mem_cons, List.mem_singleton, List.not_mem_nil, or_false, not_or]; exact ⟨hb1, hb2⟩) (Heap.get?_push_of_some _ (Heap.get?_push_of_some _ e))

      · cases r₂ with
        | error e => exact hr₂
        | ok fl₂ =>
          cases fl₂ with
          | ret r =>
            obtain ⟨rfl, h', tk, c', rfl, hS', hc', hk'⟩ := hr₂
            repeat (any_goals (first | assumption | wp_step))
            exact h _ _ _ hS' hc' hk'
          | _ => exact hr₂.elim
    | _ => exact hr.elim
theorem sorted_setB {a : Addr} {S : Int → Bool} {n : Nat} {Q : Value → Shared → Prop} (R : SetR w s.heap a S n) (hh : A.handled = none)
    (hQ : ∀ s' p (out : Array Value) (c : Nat) (ns : List Int), (∀ b o, s.heap.get? b = some o → s'.heap.get? b = some o) → s'.gens = s.gens → s'.os = s.os → s.heap.objs.size ≤ p →
      s'.heap.get? p = some (seqObj "list" out c) → IntsAre out.toList ns → ns.Pairwise (· < ·) → (∀ k, k ∈ ns ↔ S k = true) → ns.length = n → n < scanBound → Q (.ref p) s') :
    wpAny (model P w) A (call (.builtin "sorted") [.ref a]) Q E s := by
  obtain ⟨o, es, ep, t, ho, hex, hd, g, nd, hm, hb, hf, hn, hr, hl⟩ := R
  refine Calls.call_function_entry kind_sorted plain_sorted entry_sorted (args_sorted1 _) ?_
  unfold Builtin.«sorted»
  refine wpAny_bind (m := checkCount "sorted" 1 1 _) (wpAny_pure ?_)
  refine wpAny_bind (collect_set (A := A.in1) hh ⟨o, ho, hex.1, hd⟩ hf hb hr hl fun s1 vs k1 hz g1 o1 pm => ?_)
  have hvl : vs.length = n := by rw [pm.length_eq, List.length_map, Array.length_toList]; exact hn
  have hI : IntsAre vs (vs.map Builtin.Re.reRawOf) := ints_of vs fun v hv => by
    obtain ⟨e, he, q⟩ := List.mem_map.mp (pm.mem_iff.mp hv)
    obtain ⟨k, tk, h1, _⟩ := g e he
    exact ⟨k, tk, by rw [← q]; exact h1⟩
  have pk : (vs.map Builtin.Re.reRawOf).Perm (es.toList.map keyOf) := by
    have q := pm.map Builtin.Re.reRawOf
    rw [List.map_map] at q
    exact q
  have hnb : n < scanBound := by rw [← hn]; exact hb
  have hvz : vs.length ≤ sizeLine := by rw [hvl, sizeLine_eq]; unfold scanBound at hnb; omega
  refine wpAny_bind (wpAny_newList ?_ hvz)
  have hoL : (s1.heap.push (seqObj "list" vs.toArray 0)).get? s1.heap.objs.size = some (seqObj "list" vs.toArray 0) := Heap.get?_push_size _ rfl
  refine wpAny_bind (wpAny_holding (wpAny_call_entry slot_list_sort ⟨_, hoL, rfl⟩ entry_list_sort (SrtO.list_sort_ord SrtO.swo_int hoL hvz (fun h2 => SrtO.ints_sortable hI h2) fun out h1 h2 => ⟨_, rfl, ?_⟩) (args_list_sort _)))
  obtain ⟨a1, a2, a3⟩ := SrtO.ints_out hI h1 h2
  obtain ⟨c, hc⟩ := sortedHeap_at (vs := vs) (out := out.toArray) hoL
  have pn : (out.map SrtO.iv).Perm (es.toList.map keyOf) := a2.trans pk
  refine wpAny_pure ⟨_, rfl, hQ _ s1.heap.objs.size out.toArray c _ (fun b u e => ?_) g1 o1 hz hc (by simpa using a1) (lt_of_le_nodup _ a3 (pn.nodup_iff.mpr nd)) (fun k => by rw [pn.mem_iff, ← hm k]) ?_ hnb⟩
  · have q := k1 b u e
    have hlt := Heap.lt_size q
    show (sortedHeap (s1.heap.push (seqObj "list" vs.toArray 0)) s1.heap.objs.size vs out.toArray).get? b = some u
    rw [sortedHeap_old (Nat.ne_of_lt hlt) (by rw [size_push']; exact Nat.lt_succ_of_lt hlt)]
    exact Heap.get?_push_of_some _ q
  · rw [pn.length_eq, List.length_map, Array.length_toList]; exact hn
end
section
variable {X : Cx}
/-- set(xs), xs a list of ints -/
def rSetL (K : PySem.W.Frag) (w : World) : List V → Hp → VK → Prop := fun vs H Q => ∃ (a : Addr) (ns : List Int), vs = [V.ref a] ∧ (SqL K H a (ns.map V.int) ∨ SqT K H a (ns.map V.int)) ∧ ns.length ≤ 4000 ∧
  ∀ p n, n ≤ ns.length → H p = none → Q (.ref p) (upd H p (SetO w p (fun j => decide (j ∈ ns)) n))
theorem cr_setL (hc : X.calm = true) : CallR X (.type "set") (rSetL X.K X.w) := by
  intro pins s σ H vs us Q I r h
  obtain ⟨a, ns, rfl, hs, hz, q⟩ := h
  rw [Vals.ref1 r]
  rcases hs with hs | hs
  · obtain ⟨its, rv, hl, _⟩ := I.list hs
    refine call_set_listI ns (I.ok.hd hc) hl.isList (by simpa using rv.ints) (by unfold scanBound; omega) fun h' tk c R hc' k => ?_
    exact ⟨.ref _, upd H s.heap.objs.size (SetO X.w s.heap.objs.size (fun j => decide (j ∈ ns)) c), I.laid (t' := tk) k (Nat.le_refl _) (setO_new R), rfl, q _ _ hc' (I.hok.fresh (Nat.le_refl _))⟩
  · obtain ⟨its, rv, hl, _⟩ := I.tuple hs
    refine call_set_tupI ns (I.ok.hd hc) hl (by simpa using rv.ints) (by unfold scanBound; omega) fun h' tk c R hc' k => ?_
    exact ⟨.ref _, upd H s.heap.objs.size (SetO X.w s.heap.objs.size (fun j => decide (j ∈ ns)) c), I.laid (t' := tk) k (Nat.le_refl _) (setO_new R), rfl, q _ _ hc' (I.hok.fresh (Nat.le_refl _))⟩
/-- sorted(a set of ints) -/
def rSortS (w : World) : List V → Hp → VK → Prop := fun vs H Q => ∃ (a : Addr) (S : Int → Bool) (n : Nat), vs = [V.ref a] ∧ H a = some (SetO w a S n) ∧
  ∀ (ns : List Int) (p : Addr), ns.Pairwise (· < ·) → (∀ k : Int, k ∈ ns ↔ S k = true) → ns.length = n → H p = none → Q (.ref p) (upd H p (.lst (ns.map V.int)))
theorem cr_sortS (hc : X.calm = true) : CallR X (.builtin "sorted") (rSortS X.w) := by
  intro pins s σ H vs us Q I r h
  obtain ⟨a, S, n, rfl, ha, q⟩ := h
  have R := setO_get I ha
  rw [Vals.ref1 r]
  refine sorted_setB R (I.ok.hd hc) fun s' p out c ns k g o hp hg hi hs hm hl hb => ?_
  have hlen : (ns.map V.int).length ≤ sizeLine := by rw [List.length_map, hl, sizeLine_eq]; unfold scanBound at hb; omega
  have hn : H p = none := I.hok.fresh hp
  have J : Inv X pins σ (upd H p (.lst (ns.map V.int))) { s with heap := s'.heap, gens := s'.gens, drawn := s'.drawn, toks := s'.toks } :=
    I.call (ch := []) (Un.laid k hp hn) (I.hok.laid k hp ⟨hlen, out.toList, c, vals_of_ints hi, hg⟩) (by rw [g]; exact I.bare) (fun _ z => nomatch z)
  have e : s' = { s with heap := s'.heap, gens := s'.gens, drawn := s'.drawn, toks := s'.toks } := by
    cases s'
    cases s
    cases o
    rfl
  rw [e]
  exact ⟨.ref p, _, J, rfl, q ns p hs hm hl hn⟩
end
/-! ### the sorted list of the members -/
def insI (x : Int) : List Int → List Int
  | [] => [x]
  | y :: l => if x < y then x :: y :: l else if x = y then y :: l else y :: insI x l
/-- the ascending list of the members of xs -/
def srtU : List Int → List Int
  | [] => []
  | x :: l => insI x (srtU l)
theorem insI_mem {x k : Int} : ∀ {l : List Int}, k ∈ insI x l ↔ k = x ∨ k ∈ l
  | [] => by simp [insI]
  | y :: l => by
    unfold insI
    split
    · simp
    · split
      · rename_i h; subst h; simp
      · simp only [List.mem_cons, insI_mem (l := l)]
        constructor
        · rintro (h | h | h) <;> simp [h]
        · rintro (h | h | h) <;> simp [h]
theorem insI_asc {x : Int} : ∀ {l : List Int}, l.Pairwise (· < ·) → (insI x l).Pairwise (· < ·)
  | [], _ => by simp [insI]
  | y :: l, h => by
    obtain ⟨h1, h2⟩ := List.pairwise_cons.mp h
    unfold insI
    split
    · rename_i c
      exact List.pairwise_cons.mpr ⟨fun z hz => by
        rcases List.mem_cons.mp hz with e | e
        · rw [e]; exact c
        · have := h1 z e; omega, h⟩
    · split
      · exact h
      · refine List.pairwise_cons.mpr ⟨fun z hz => ?_, insI_asc h2⟩
        rcases insI_mem.mp hz with e | e
        · subst e; omega
        · exact h1 z e
theorem srtU_mem {k : Int} : ∀ {l : List Int}, k ∈ srtU l ↔ k ∈ l
  | [] => by simp [srtU]
  | y :: l => by
    unfold srtU
    rw [insI_mem, srtU_mem (l := l)]
    simp
theorem srtU_asc : ∀ l : List Int, (srtU l).Pairwise (· < ·)
  | [] => List.Pairwise.nil
  | y :: l => by
    unfold srtU
    exact insI_asc (srtU_asc l)
theorem asc_ext : ∀ {l m : List Int}, l.Pairwise (· < ·) → m.Pairwise (· < ·) → (∀ k, k ∈ l ↔ k ∈ m) → l = m
  | [], [], _, _, _ => rfl
  | [], y :: m, _, _, e => absurd ((e y).mpr List.mem_cons_self) (by simp)
  | x :: l, [], _, _, e => absurd ((e x).mp List.mem_cons_self) (by simp)
  | x :: l, y :: m, h1, h2, e => by
    obtain ⟨a1, a2⟩ := List.pairwise_cons.mp h1
    obtain ⟨b1, b2⟩ := List.pairwise_cons.mp h2
    have exy : x = y := by
      rcases List.mem_cons.mp ((e x).mp List.mem_cons_self) with c | c
      · exact c
      · rcases List.mem_cons.mp ((e y).mpr List.mem_cons_self) with d | d
        · exact d.symm
        · have := b1 x c; have := a1 y d; omega
    subst exy
    rw [asc_ext a2 b2 fun k => ?_]
    constructor
    · intro hk
      rcases List.mem_cons.mp ((e k).mp (List.mem_cons_of_mem _ hk)) with c | c
      · have := a1 k hk; omega
      · exact c
    · intro hk
      rcases List.mem_cons.mp ((e k).mpr (List.mem_cons_of_mem _ hk)) with c | c
      · have := b1 k hk; omega
      · exact c
theorem srtU_len : ∀ l : List Int, (srtU l).length ≤ l.length
  | [] => Nat.le_refl _
  | y :: l => by
    have ins : ∀ (x : Int) (m : List Int), (insI x m).length ≤ m.length + 1 := by
      intro x m
      induction m with
      | nil => simp [insI]
      | cons z m ih =>
        unfold insI
        split
        · simp
        · split
          · simp
          · simp only [List.length_cons]; omega
    unfold srtU
    have := ins y (srtU l)
    have := srtU_len l
    simp only [List.length_cons]
    omega
theorem srtU_of {l ns : List Int} (h : ns.Pairwise (· < ·)) (e : ∀ k, k ∈ ns ↔ decide (k ∈ l) = true) : ns = srtU l :=
  asc_ext h (srtU_asc l) fun k => by rw [e k, srtU_mem]; simp
end LL

set_option Elab.async false
set_option linter.all false
set_option maxRecDepth 100000
set_option maxHeartbeats 400000
/-! LClm: claims and their readings, in plain words -/
namespace LL
open PySem PySem.Spec PyProof.Rows L2
/-! ### rows -/
variable [KW]
def nD (rows : List Nat) : List PyData := rows.map fun r => .int (r : Nat)
def intD : PyData → Int
  | .int i => i
  | _ => 0
def risB (l : List Int) : Bool := (List.range (l.length - 1)).all fun i => decide (l.getD i 0 < l.getD (i + 1) 0)
/-- a tuple of rising rows below n -/
def rowsB (n : Int) : PyData → Bool
  | .tuple ds => ds.all (isNum 0 (n - 1)) && risB (ds.map intD)
  | _ => false
theorem nD_int (rows : List Nat) : (nD rows).map intD = rows.map fun r => ((r : Nat) : Int) := by
  unfold nD
  rw [List.map_map]
  rfl
theorem all_nat {n : Int} : ∀ {ds : List PyData}, ds.all (isNum 0 (n - 1)) = true → ∃ rows : List Nat, ds = nD rows ∧ ∀ r ∈ rows, (r : Int) < n
  | [], _ => ⟨[], rfl, by simp⟩
  | d :: ds, h => by
    rw [List.all_cons, Bool.and_eq_true] at h
    obtain ⟨i, rfl, h1, h2⟩ := num_nat h.1 (by decide)
    obtain ⟨rows, rfl, h3⟩ := all_nat h.2
    refine ⟨i :: rows, rfl, fun r hr => ?_⟩
    rcases List.mem_cons.mp hr with e | e
    · subst e; omega
    · exact h3 r e
theorem ris_pair : ∀ {l : List Int}, risB l = true → l.Pairwise (· < ·)
  | [], _ => List.Pairwise.nil
  | [x], _ => by simp
  | x :: y :: l, h => by
    have h' := List.all_eq_true.mp h
    have h0 : x < y := by
      have := h' 0 (List.mem_range.mpr (by simp))
      simpa using this
    have ht : risB (y :: l) = true := List.all_eq_true.mpr fun i hi => by
      have hi := List.mem_range.mp hi
      have := h' (i + 1) (List.mem_range.mpr (by simp only [List.length_cons] at *; omega))
      simpa using this
    have ih := ris_pair ht
    refine List.pairwise_cons.mpr ⟨fun z hz => ?_, ih⟩
    rcases List.mem_cons.mp hz with e | e
    · rw [e]; exact h0
    · have := (List.pairwise_cons.mp ih).1 z e
      omega
theorem rows_nat {n : Int} {d : PyData} (h : rowsB n d = true) : ∃ rows : List Nat, d = .tuple (nD rows) ∧ (∀ r ∈ rows, (r : Int) < n) ∧ (rows.map fun r => ((r : Nat) : Int)).Pairwise (· < ·) := by
  cases d with
  | tuple ds =>
    have h : (ds.all (isNum 0 (n - 1)) && risB (ds.map intD)) = true := h
    rw [Bool.and_eq_true] at h
    obtain ⟨rows, rfl, h2⟩ := all_nat h.1
    refine ⟨rows, rfl, h2, ?_⟩
    rw [← nD_int]
    exact ris_pair h.2
  | _ => cases h
def nVl (rows : List Nat) : List V := rows.map fun r => .int (r : Nat)
theorem nD_is {M : List Addr} {H : Hp} : ∀ rows : List Nat, IsDs M H (nD rows) (nVl rows)
  | [] => .nil
  | r :: rows => .cons Is.int (nD_is rows)
theorem nD_of {M : List Addr} {H : Hp} : ∀ {rows : List Nat} {vs : List V}, IsDs M H (nD rows) vs → vs = nVl rows
  | [], vs, h => by
    unfold nD at h
    rw [List.map_nil] at h
    unfold IsDs at h
    exact h
  | r :: rows, vs, h => by
    unfold nD at h
    rw [List.map_cons] at h
    unfold IsDs at h
    obtain ⟨v, ws, rfl, h1, h2⟩ := h
    cases h1.intE
    rw [nD_of (rows := rows) h2]
    rfl
theorem nD_sz (rows : List Nat) : szL (nD rows) = rows.length := by
  unfold nD
  induction rows with
  | nil => exact szL_nil
  | cons r rows ih => rw [List.map_cons, szL_cons, ih, List.length_cons, sz1_int]; omega
theorem nD_dep (rows : List Nat) : depL (nD rows) = 0 := by
  unfold nD
  induction rows with
  | nil => exact depL_nil
  | cons r rows ih => rw [List.map_cons, depL_cons, ih, dep1_int]; rfl
theorem cast_inj : ∀ {a b : List Nat}, (a.map fun r => ((r : Nat) : Int)) = (b.map fun r => ((r : Nat) : Int)) → a = b
  | [], [], _ => rfl
  | [], y :: b, h => by simp at h
  | x :: a, [], h => by simp at h
  | x :: a, y :: b, h => by
    rw [List.map_cons, List.map_cons] at h
    injection h with h1 h2
    rw [Int.ofNat.inj h1, cast_inj h2]
/-! ### ascending -/
def srtN (rows : List Nat) : List Nat := (srtU (rows.map fun r => ((r : Nat) : Int))).map Int.toNat
theorem srtN_cast (rows : List Nat) : (srtN rows).map (fun r => ((r : Nat) : Int)) = srtU (rows.map fun r => ((r : Nat) : Int)) := by
  unfold srtN
  rw [List.map_map]
  have : ∀ x ∈ srtU (rows.map fun r => ((r : Nat) : Int)), ((fun r => ((r : Nat) : Int)) ∘ Int.toNat) x = x := fun x hx => by
    obtain ⟨r, _, rfl⟩ := List.mem_map.mp (srtU_mem.mp hx)
    simp
  exact (List.map_congr_left this).trans (List.map_id _)
theorem srtN_mem {rows : List Nat} {k : Nat} : k ∈ srtN rows ↔ k ∈ rows := by
  have e := srtN_cast rows
  have cm : ∀ l : List Nat, k ∈ l ↔ ((k : Nat) : Int) ∈ l.map (fun r => ((r : Nat) : Int)) := fun l => by
    constructor
    · exact fun h => List.mem_map.mpr ⟨k, h, rfl⟩
    · intro h
      obtain ⟨a, ha, e⟩ := List.mem_map.mp h
      rw [← Int.ofNat.inj e]
      exact ha
  rw [cm (srtN rows), e, srtU_mem, ← cm]
theorem srtN_len (rows : List Nat) : (srtN rows).length ≤ rows.length := by
  unfold srtN
  rw [List.length_map]
  have := srtU_len (rows.map fun r => ((r : Nat) : Int))
  rw [List.length_map] at this
  exact this
theorem srtN_id {rows : List Nat} (h : (rows.map fun r => ((r : Nat) : Int)).Pairwise (· < ·)) : srtN rows = rows := by
  have e := srtN_cast rows
  rw [← srtU_of h (fun k => by simp)] at e
  exact cast_inj e
theorem nV_srt (rows : List Nat) : (srtU (rows.map fun r => ((r : Nat) : Int))).map V.int = nVl (srtN rows) := by
  rw [← srtN_cast]
  unfold nVl
  rw [List.map_map]
  rfl
/-! ### the readings -/
inductive R7
  | neg | den | box | dou | mk | ms | mg
  deriving DecidableEq
def R7.str : R7 → Str
  | .neg => "negative" | .den => "denied" | .box => "boxed" | .dou => "doubled" | .mk => "modal k" | .ms => "modal s4" | .mg => "modal gl"
def r7Of (x : Str) : Option R7 :=
  if x = "negative" then some .neg else if x = "denied" then some .den else if x = "boxed" then some .box else if x = "doubled" then some .dou else if x = "modal k" then some .mk else if x = "modal s4" then some .ms else if x = "modal gl" then some .mg else none
def isR7 : PyData → Option R7
  | .str x => r7Of x
  | _ => none
theorem r7_str {x : Str} {r : R7} (h : r7Of x = some r) : x = r.str := by
  unfold r7Of at h
  repeat' split at h
  all_goals first | (cases h; assumption) | cases h
theorem r7_of (r : R7) : r7Of r.str = some r := by cases r <;> decide +kernel
def R7.lo : R7 → Str
  | .box => "intuit" | .dou => "intuit" | _ => "classical"
def R7.hi : R7 → Str
  | .neg => "intuit" | .den => "intuit" | .box => "s4" | .dou => "gl" | .mk => "k" | .ms => "s4" | .mg => "gl"
/-- the rows denied, one after the other -/
def denyL : List Nd → List Nat → List Nat × List Nd
  | ns, [] => ([], ns)
  | ns, r :: rs => ((denyF ns r).1 :: (denyL (denyF ns r).2 rs).1, (denyL (denyF ns r).2 rs).2)
theorem denyL_snoc : ∀ (l : List Nat) (ns : List Nd) (r : Nat), denyL ns (l ++ [r]) = ((denyL ns l).1 ++ [(denyF (denyL ns l).2 r).1], (denyF (denyL ns l).2 r).2)
  | [], ns, r => rfl
  | x :: l, ns, r => by
    rw [List.cons_append]
    unfold denyL
    rw [denyL_snoc l]
    rfl
theorem denyL_len (l : List Nat) : ∀ ns : List Nd, (denyL ns l).2.length ≤ ns.length + 2 * l.length := by
  induction l with
  | nil => intro ns; exact Nat.le_add_right _ _
  | cons r l ih =>
    intro ns
    have := ih (denyF ns r).2
    have := denyF_len ns r
    show (denyL (denyF ns r).2 l).2.length ≤ _
    rw [List.length_cons]
    omega
theorem denyL_len1 (l : List Nat) : ∀ ns : List Nd, (denyL ns l).1.length = l.length := by
  induction l with
  | nil => intro ns; rfl
  | cons r l ih =>
    intro ns
    show (denyL (denyF ns r).2 l).1.length + 1 = l.length + 1
    rw [ih]
theorem denyL_pre (l : List Nat) : ∀ ns : List Nd, ns <+: (denyL ns l).2 := by
  induction l with
  | nil => intro ns; exact List.prefix_rfl
  | cons r l ih => intro ns; exact (denyF_pre ns r).trans (ih _)
theorem denyL_ok {bx : Bool} (l : List Nat) : ∀ ns : List Nd, okSheet bx ns → (∀ r ∈ l, r < ns.length) → okSheet bx (denyL ns l).2 ∧ ∀ r ∈ (denyL ns l).1, r < (denyL ns l).2.length := by
  induction l with
  | nil => intro ns ok _; exact ⟨ok, fun r hr => nomatch hr⟩
  | cons r l ih =>
    intro ns ok h
    obtain ⟨o1, l1⟩ := denyF_ok ok (h r List.mem_cons_self)
    have hp := (denyF_pre ns r).length_le
    obtain ⟨o2, l2⟩ := ih (denyF ns r).2 o1 (fun q hq => by have := h q (List.mem_cons_of_mem _ hq); omega)
    refine ⟨o2, fun q hq => ?_⟩
    rcases List.mem_cons.mp hq with e | e
    · subst e
      have := (denyL_pre l (denyF ns r).2).length_le
      show (denyF ns r).1 < (denyL (denyF ns r).2 l).2.length
      omega
    · exact l2 q e
/-- rows grown by a reading -/
def growF (w : W3) (ns : List Nd) (rows : List Nat) : List Nd × (Nat → Nat) := readF w ns (belowF ns rows) ns (fun _ => 0)
def newC (r : R7) (ns : List Nd) (rows : List Nat) : List Nd × (Nat → Nat) :=
  match r with
  | .neg => growF .neg ns rows
  | .box => growF .box ns rows
  | .dou => ((growF .dou (growF .box ns rows).1 (rows.map (growF .box ns rows).2)).1, fun i => (growF .dou (growF .box ns rows).1 (rows.map (growF .box ns rows).2)).2 ((growF .box ns rows).2 i))
  | _ => (ns, fun i => i)
def R7.denies : R7 → Bool
  | .neg => true
  | .den => true
  | _ => false
/-- the read claim -/
def readC (r : R7) (ns : List Nd) (le ri : List Nat) : List Nd × List Nat × List Nat :=
  if r.denies then ((denyL (newC r ns (le ++ ri)).1 (ri.map (newC r ns (le ++ ri)).2)).2, srtN (le.map (newC r ns (le ++ ri)).2 ++ (denyL (newC r ns (le ++ ri)).1 (ri.map (newC r ns (le ++ ri)).2)).1), [])
  else ((newC r ns (le ++ ri)).1, srtN (le.map (newC r ns (le ++ ri)).2), srtN (ri.map (newC r ns (le ++ ri)).2))
/-! ### claims as data -/
def clD (ns : List Nd) (l r : List Nat) : PyData := .tuple [.list (ns.map Nd.data), .tuple [], .tuple (nD l), .tuple (nD r)]
def emptyT : PyData → Bool
  | .tuple [] => true
  | _ => false
/-- the first error of a claim -/
def claimW : PyData → Option (Str × PyData)
  | .tuple [sh, th, le, ri] =>
    match wrongD 5000 false sh with
    | some i => some ("BadSheet", .int i)
    | none => if (rowsB (lenD sh) th && emptyT th) = false then some ("BadClaim", .str "theory") else if rowsB (lenD sh) le = false then some ("BadClaim", .str "left") else if rowsB (lenD sh) ri = false then some ("BadClaim", .str "right") else none
  | _ => some ("BadClaim", .str "claim")
/-- a right claim -/
structure RtC (ns : List Nd) (l r : List Nat) : Prop where
  ok : okSheet false ns
  hl : ns.length ≤ 5000
  bl : ∀ i ∈ l, i < ns.length
  br : ∀ i ∈ r, i < ns.length
  al : (l.map fun r => ((r : Nat) : Int)).Pairwise (· < ·)
  ar : (r.map fun r => ((r : Nat) : Int)).Pairwise (· < ·)
theorem claimW_none {d : PyData} (h : claimW d = none) : ∃ ns l r, d = clD ns l r ∧ RtC ns l r := by
  unfold claimW at h
  split at h
  · rename_i sh th le ri
    split at h
    · cases h
    · rename_i e
      obtain ⟨ns, rfl, ok, hl⟩ := wrongD_none (by decide) e
      have el : lenD (.list (ns.map Nd.data)) = ns.length := by show (ns.map Nd.data).length = ns.length; rw [List.length_map]
      rw [el] at h
      split at h
      · cases h
      · rename_i h1
        split at h
        · cases h
        · rename_i h2
          split at h
          · cases h
          · rename_i h3
            have h1 : (rowsB (ns.length : Nat) th && emptyT th) = true := by
              cases c : (rowsB (ns.length : Nat) th && emptyT th) with
              | true => rfl
              | false => exact absurd c h1
            have h2 : rowsB (ns.length : Nat) le = true := by simpa using h2
            have h3 : rowsB (ns.length : Nat) ri = true := by simpa using h3
            rw [Bool.and_eq_true] at h1
            have e2 : th = .tuple [] := by
              have := h1.2
              unfold emptyT at this
              split at this
              · rfl
              · cases this
            subst e2
            obtain ⟨l, rfl, b1, a1⟩ := rows_nat h2
            obtain ⟨r, rfl, b2, a2⟩ := rows_nat h3
            exact ⟨ns, l, r, rfl, ok, by omega, fun i hi => by have := b1 i hi; omega, fun i hi => by have := b2 i hi; omega, a1, a2⟩
  · cases h
/-- what is due -/
inductive DueC (rd cl : PyData) : PyData → Prop
  | value (h : isR7 rd = none) : DueC rd cl (.tuple [.str "BadValue", .str "reading"])
  | wrong (r : R7) (h : isR7 rd = some r) (c : Str) (x : PyData) (h2 : claimW cl = some (c, x)) : DueC rd cl (.tuple [.str c, x])
  | told (r : R7) (h : isR7 rd = some r) (ns : List Nd) (le ri : List Nat) (hc : cl = clD ns le ri) (h2 : claimW cl = none) (ok : RtC ns le ri) : DueC rd cl (.tuple [.str "told", clD (readC r ns le ri).1 (readC r ns le ri).2.1 (readC r ns le ri).2.2])
theorem dueC_ex (rd cl : PyData) : ∃ e, DueC rd cl e := by
  cases h : isR7 rd with
  | none => exact ⟨_, .value h⟩
  | some r =>
    cases h2 : claimW cl with
    | some p => obtain ⟨c, x⟩ := p; exact ⟨_, .wrong r h c x h2⟩
    | none =>
      obtain ⟨ns, l, ri, e, ok⟩ := claimW_none h2
      exact ⟨_, .told r h ns l ri e h2 ok⟩
theorem clD_inj {ns ms : List Nd} {l r k m : List Nat} (h : clD ns l r = clD ms k m) : ns = ms ∧ l = k ∧ r = m := by
  unfold clD at h
  injection h with h
  injection h with h1 h
  injection h1 with h1
  injection h with h2 h
  injection h with h3 h
  injection h3 with h3
  injection h with h4 h
  injection h4 with h4
  have inj : ∀ {a b : List Nat}, nD a = nD b → a = b := fun {a b} e => by
    have := congrArg (List.map intD) e
    rw [nD_int, nD_int] at this
    exact cast_inj this
  exact ⟨nds_inj h1, inj h3, inj h4⟩
end LL

set_option Elab.async false
set_option linter.all false
set_option maxRecDepth 100000
set_option maxHeartbeats 400000
/-! LCmp: comprehensions over range(lo, hi) -/
namespace LL
open PySem PySem.Spec PyProof.Rows L2
section
variable [KW]
variable {K : PySem.W.Frag} {a D : Addr} {xs : List V} {g : TG} {te : TE} {vs : List Nat} {σ : L2.St} {H1 : Hp} {Qd : Hp → Prop}
theorem lc_mapRl {lo : Int} {n : Nat} (ys : Nat → V) (hD : H1 D = none) (hz : n ≤ 1000000)
    (hs : ∀ (i : Nat) (H : Hp) (acc : List V) (R : V → Hp → Prop), i < n → Adv [] H1 H → H D = some (.lst acc) → (∀ H4, H4 D = some (.lst acc) → Adv [] H1 H4 → R (ys i) H4) → g (.int (lo + (i : Nat))) (wipe σ vs) H fun σ2 H2 => wipe σ2 vs = wipe σ vs ∧ te σ2 H2 R)
    (hd : ∀ H, Adv [] H1 H → H D = some (.lst ((List.range n).map ys)) → Qd H) :
    ∃ W : Nat → Nat → Hp → Prop, (∃ m, W 0 m (upd H1 D (.lst []))) ∧ ∀ i m H, W i m H →
      ((Itr lo n).stop i H ∧ Qd H) ∨ ((Itr lo n).go i H ∧ ∃ Nx : Hp → Prop, (∀ H', Nx H' → ∃ m', m' < m ∧ W (i + 1) m' H') ∧ ∀ x H', (Itr lo n).yld i H x H' → g x (wipe σ vs) H' fun σ2 H2 => wipe σ2 vs = wipe σ vs ∧ tYes σ2 H2 fun b H3 =>
        if b = true then te σ2 H3 fun y H4 => ∃ acc, H4 D = some (.lst acc) ∧ acc.length < sizeLine ∧ Nx (upd H4 D (.lst (acc ++ [y]))) else Nx H3) := by
  refine lc_range (lo := lo) (n := n) (tt := tYes) (fun i H => Adv [] H1 H ∧ H D = some (.lst ((List.range i).map ys))) ⟨Adv.new hD, upd_same⟩ (fun i H hi p => ?_) (fun H p => hd H p.1 p.2)
  refine hs i H _ (fun y H4 => ∃ acc, H4 D = some (.lst acc) ∧ acc.length < sizeLine ∧ Adv [] H1 (upd H4 D (.lst (acc ++ [y]))) ∧ (upd H4 D (.lst (acc ++ [y]))) D = some (.lst ((List.range (i + 1)).map ys))) hi p.1 p.2 (fun H4 e4 a4 => ⟨_, e4, ?_, Adv.mut a4 hD, ?_⟩)
  · rw [List.length_map, List.length_range, sizeLine_eq]
    omega
  · rw [upd_same, range_map_succ]
theorem lc_filtRl {lo : Int} {n : Nat} {tt : TT} (ys : Nat → V) (c : Nat → Bool) (hD : H1 D = none) (hz : n ≤ 1000000)
    (hs : ∀ (i : Nat) (H : Hp) (acc : List V) (R : V → Hp → Prop) (R0 : Hp → Prop), i < n → Adv [] H1 H → H D = some (.lst acc) → (c i = true → ∀ H4, H4 D = some (.lst acc) → Adv [] H1 H4 → R (ys i) H4) →
      (c i = false → ∀ H4, H4 D = some (.lst acc) → Adv [] H1 H4 → R0 H4) → g (.int (lo + (i : Nat))) (wipe σ vs) H fun σ2 H2 => wipe σ2 vs = wipe σ vs ∧ tt σ2 H2 fun b H3 => if b = true then te σ2 H3 R else R0 H3)
    (hd : ∀ H, Adv [] H1 H → H D = some (.lst (((List.range n).filter c).map ys)) → Qd H) :
    ∃ W : Nat → Nat → Hp → Prop, (∃ m, W 0 m (upd H1 D (.lst []))) ∧ ∀ i m H, W i m H →
      ((Itr lo n).stop i H ∧ Qd H) ∨ ((Itr lo n).go i H ∧ ∃ Nx : Hp → Prop, (∀ H', Nx H' → ∃ m', m' < m ∧ W (i + 1) m' H') ∧ ∀ x H', (Itr lo n).yld i H x H' → g x (wipe σ vs) H' fun σ2 H2 => wipe σ2 vs = wipe σ vs ∧ tt σ2 H2 fun b H3 =>
        if b = true then te σ2 H3 fun y H4 => ∃ acc, H4 D = some (.lst acc) ∧ acc.length < sizeLine ∧ Nx (upd H4 D (.lst (acc ++ [y]))) else Nx H3) := by
  refine lc_range (lo := lo) (n := n) (tt := tt) (fun i H => Adv [] H1 H ∧ H D = some (.lst (((List.range i).filter c).map ys))) ⟨Adv.new hD, upd_same⟩ (fun i H hi p => ?_) (fun H p => hd H p.1 p.2)
  refine hs i H _ (fun y H4 => ∃ acc, H4 D = some (.lst acc) ∧ acc.length < sizeLine ∧ Adv [] H1 (upd H4 D (.lst (acc ++ [y]))) ∧ (upd H4 D (.lst (acc ++ [y]))) D = some (.lst (((List.range (i + 1)).filter c).map ys)))
    (fun H3 => Adv [] H1 H3 ∧ H3 D = some (.lst (((List.range (i + 1)).filter c).map ys))) hi p.1 p.2 (fun hc H4 e4 a4 => ⟨_, e4, ?_, Adv.mut a4 hD, ?_⟩) (fun hc H4 e4 a4 => ⟨a4, ?_⟩)
  · have h1 := List.length_filter_le c (List.range i)
    rw [List.length_range] at h1
    rw [List.length_map, sizeLine_eq]
    omega
  · rw [upd_same, range_filt_succ, if_pos hc]
  · rw [e4, range_filt_succ, if_neg (by rw [hc]; decide), List.append_nil]
end
theorem filt0 {n : Nat} (c : Nat → Bool) (ys : Nat → V) : decide (V.int ((((List.range n).filter c).map ys).length : Nat) = V.int 0) = (List.range n).all fun i => !c i := by
  rw [List.length_map]
  cases e : (List.range n).all fun i => !c i with
  | true =>
    have : (List.range n).filter c = [] := by
      rw [List.filter_eq_nil_iff]
      intro i hi
      have := List.all_eq_true.mp e i hi
      simpa using this
    rw [this]
    rfl
  | false =>
    apply decide_eq_false
    intro z
    have z := V.int.inj z
    have z : ((List.range n).filter c).length = 0 := by omega
    have z := List.length_eq_zero_iff.mp z
    rw [List.filter_eq_nil_iff] at z
    have : (List.range n).all (fun i => !c i) = true := List.all_eq_true.mpr fun i hi => by
      have := z i hi
      simpa using this
    rw [e] at this
    cases this
end LL

set_option Elab.async false
set_option linter.all false
set_option maxRecDepth 100000
set_option maxHeartbeats 400000
/-! LSrt: sorted(a list of tuples of ints, none of them empty), of any length -/
namespace LL
open PySem PySem.Spec PyProof.Rows L2
def ltL : List Int → List Int → Bool
  | [], [] => false
  | [], _ :: _ => true
  | _ :: _, [] => false
  | x :: xs, y :: ys => if x = y then ltL xs ys else decide (x < y)
theorem ltL_irr : ∀ x : List Int, ltL x x = false
  | [] => rfl
  | x :: xs => by
    unfold ltL
    rw [if_pos rfl]
    exact ltL_irr xs
theorem ltL_asym : ∀ x y : List Int, ltL x y = true → ltL y x = false
  | [], [], h => by cases h
  | [], _ :: _, _ => rfl
  | _ :: _, [], h => by cases h
  | x :: xs, y :: ys, h => by
    unfold ltL at h ⊢
    by_cases e : x = y
    · rw [if_pos e] at h
      rw [if_pos e.symm]
      exact ltL_asym xs ys h
    · rw [if_neg e] at h
      rw [if_neg fun z => e z.symm]
      have := of_decide_eq_true h
      exact decide_eq_false (by omega)
theorem ltL_tr : ∀ x y z : List Int, ltL y x = false → ltL z y = false → ltL z x = false
  | [], [], [], _, _ => rfl
  | [], [], _ :: _, _, _ => rfl
  | [], y :: ys, [], _, h => by cases h
  | [], _ :: _, _ :: _, _, _ => rfl
  | x :: xs, [], _, h, _ => by cases h
  | x :: xs, y :: ys, [], _, h => by cases h
  | x :: xs, y :: ys, z :: zs, h1, h2 => by
    unfold ltL at h1 h2 ⊢
    by_cases e1 : y = x
    · subst e1
      rw [if_pos rfl] at h1
      by_cases e2 : z = y
      · subst e2
        rw [if_pos rfl] at h2 ⊢
        exact ltL_tr xs ys zs h1 h2
      · rw [if_neg e2] at h2 ⊢
        exact h2
    · rw [if_neg e1] at h1
      have l1 := of_decide_eq_false h1
      by_cases e2 : z = y
      · subst e2
        rw [if_neg e1]
        exact h1
      · rw [if_neg e2] at h2
        have l2 := of_decide_eq_false h2
        rw [if_neg (by omega)]
        exact decide_eq_false (by omega)
theorem ltL_tot : ∀ x y : List Int, ltL x y = false → ltL y x = false → x = y
  | [], [], _, _ => rfl
  | [], _ :: _, h, _ => by cases h
  | _ :: _, [], _, h => by cases h
  | x :: xs, y :: ys, h1, h2 => by
    unfold ltL at h1 h2
    by_cases e : x = y
    · subst e
      rw [if_pos rfl] at h1 h2
      rw [ltL_tot xs ys h1 h2]
    · rw [if_neg e] at h1
      rw [if_neg fun z => e z.symm] at h2
      have := of_decide_eq_false h1
      have := of_decide_eq_false h2
      omega
theorem swo_ltL {α : Type} (k : α → List Int) : SrtO.Swo fun v u => ltL (k v) (k u) := ⟨fun x y h => ltL_asym _ _ h, fun x y z h1 h2 => ltL_tr _ _ _ h1 h2⟩
/-- two ascending lists of the same items are the same -/
theorem srtL_ext {l m : List (List Int)} (h1 : l.Pairwise fun x y => ltL y x = false) (h2 : m.Pairwise fun x y => ltL y x = false) (p : l.Perm m) : l = m :=
  p.eq_of_pairwise (le := fun x y => ltL y x = false) (fun x y _ _ a b => ltL_tot x y b a) h1 h2
section
variable {prog : Program} {w : World} {A : Around} {s : Shared}
/-- a tuple of these ints -/
def TupI (h : Heap) (v : Value) (ns : List Int) : Prop := ∃ a o its n, v = Value.ref a ∧ h.get? a = some o ∧ o.cls = .type "tuple" ∧ o.data = .seq its n ∧ IntsAre its.toList ns
theorem TupI.keeps {h h' : Heap} {v : Value} {ns : List Int} (x : TupI h v ns) (k : ∀ b o, h.get? b = some o → o.cls = .type "tuple" → h'.get? b = some o) : TupI h' v ns := by
  obtain ⟨a, o, its, n, e, ho, hc, hd, hi⟩ := x
  exact ⟨a, o, its, n, e, k a o ho hc, hc, hd, hi⟩
theorem kat_ints {b : Bool} {Q : Bool → Shared → Prop} : ∀ {xs ys : List Value} {ns ms : List Int} (i : Nat), IntsAre xs ns → IntsAre ys ms → Q (ltL ns ms) s →
    PySem.W.KatLex prog w A b (decide (xs.length < ys.length)) Q (xs.zip ys) i s
  | _, _, _, _, i, .nil, .nil, h => PySem.W.kat_nil h
  | _, _, _, _, i, .nil, .cons n t r, h => PySem.W.kat_nil h
  | _, _, _, _, i, .cons n t r, .nil, h => PySem.W.kat_nil h
  | _, _, _, _, i, .cons n t (vs := xs) (ns := ns) r, .cons m u (vs := ys) (ns := ms) r2, h => by
    have el : decide ((Value.int n t :: xs).length < (Value.int m u :: ys).length) = decide (xs.length < ys.length) := by
      rw [List.length_cons, List.length_cons]
      exact decide_eq_decide.mpr ⟨fun h => by omega, fun h => by omega⟩
    rw [el]
    show PySem.W.KatLex prog w A b _ Q ((Value.int n t, Value.int m u) :: xs.zip ys) i s
    refine PySem.W.kat_cons (SeqAt.EqAt.int_int n t m u prog w _ _ ?_)
    have hl : ltL (n :: ns) (m :: ms) = if n = m then ltL ns ms else decide (n < m) := by rw [ltL]
    rw [hl] at h
    refine PySem.W.kat_go (fun e1 => ?_) (fun e1 => ?_)
    · have ex : n = m := by simpa using e1
      rw [if_pos ex] at h
      exact PySem.W.kat_yes (kat_ints (i + 1) r r2 h)
    · have ex : ¬ n = m := by simpa using e1
      rw [if_neg ex] at h
      refine PySem.W.kat_no ?_
      cases (b && i == 0) with
      | true => exact oneLt_int h
      | false => exact PySem.W.kat_one _ _ (PyProof.Rows.lt_int (Q := PySem.W.BoolBack Q) h)
theorem tup_cmp {vs : List Value} {k : Value → List Int} (hp : ∀ v ∈ vs, TupI s.heap v (k v)) : SrtO.Cmp prog w A s (tuples' true) (fun p => p.1 ∈ vs) (SrtO.lt2 fun v u => ltL (k v) (k u)) := by
  intro p q hm hm'
  have h1 := hp _ hm
  have h2 := hp _ hm'
  show wpAny (model prog w) A (keyLt' (tuples' true) p.1 q.1) (fun r s' => s' = s ∧ r = ltL (k p.1) (k q.1)) (fun _ _ => False) s
  obtain ⟨a, o, its, n, e, ho, hc, hd, hi⟩ := h1
  obtain ⟨a', o', its', n', e', ho', hc', hd', hi'⟩ := h2
  rw [e] at hi ⊢
  rw [e'] at hi' ⊢
  refine PySem.W.kat_lt ho hd ho' hd' ?_
  have := kat_ints (prog := prog) (w := w) (A := A) (s := s) (b := true) (Q := fun r s' => s' = s ∧ r = ltL (k (.ref a)) (k (.ref a'))) 0 hi hi' ⟨rfl, rfl⟩
  rw [Array.length_toList, Array.length_toList] at this
  exact this
theorem firsts_tup {h : Heap} : ∀ {vs : List Value}, (∀ v ∈ vs, ∃ x ns, TupI h v (x :: ns)) → ∃ fs : List Value, PySem.W.KatTups h vs fs ∧ fs.length = vs.length ∧ ∀ f ∈ fs, ∃ x t, f = Value.int x t
  | [], _ => ⟨[], PySem.W.KatTups.nil, rfl, fun _ hm => by simp at hm⟩
  | v :: vs, hp => by
    obtain ⟨fs, h1, h2, h3⟩ := firsts_tup (vs := vs) fun v' hm => hp v' (List.mem_cons_of_mem _ hm)
    obtain ⟨x, ns, a, o, its, n, e, ho, hc, hd, hi⟩ := hp v List.mem_cons_self
    subst e
    obtain ⟨its⟩ := its
    cases hi with
    | cons _ t r =>
      rename_i us
      refine ⟨.int x t :: fs, PySem.W.KatTups.cons ho hc hd (by simp) h1, by rw [List.length_cons, List.length_cons, h2], fun f hm => ?_⟩
      rcases List.mem_cons.mp hm with rfl | hm
      · exact ⟨x, t, rfl⟩
      · exact h3 f hm
theorem tup_sortable {a : Addr} {vs : List Value} {k : Value → List Int} (h0 : 0 < vs.length) (hp : ∀ v ∈ vs, TupI s.heap v (k v)) (hk : ∀ v ∈ vs, k v ≠ []) (ha : ∀ o, s.heap.get? a = some o → o.cls ≠ .type "tuple") :
    SrtO.SortableO prog w A s a vs fun v u => ltL (k v) (k u) := by
  intro h' keep
  have hp' : ∀ v ∈ vs, TupI h' v (k v) := fun v hm => (hp v hm).keeps fun b o e c => keep b o (fun z => by subst z; exact ha o e c) e
  obtain ⟨fs, h1, h2, h3⟩ := firsts_tup (h := h') (vs := vs) fun v hm => by
    have := hp' v hm
    cases q : k v with
    | nil => exact absurd q (hk v hm)
    | cons x ns => rw [q] at this; exact ⟨x, ns, this⟩
  refine ⟨tuples' true, fun Q E hq => ?_, tup_cmp hp'⟩
  refine PySem.W.kat_kind (T := .type "int") h1 (by omega) (fun f hm => ?_) (by rfl) ?_
  · obtain ⟨x, t, rfl⟩ := h3 f hm
    exact PySem.W.Looks.now
  · have e : (Value.type "int" != Value.type "tuple") = true := by first | decide +kernel | rfl | decide
    rw [e]
    exact hq
end
/-- sorted(xs), tuples of ints that are not empty (an only one may be) -/
def rSortT : List V → Hp → VK → Prop := fun vs H Q => ∃ (a : Addr) (ys : List V) (k : V → List Int), vs = [V.ref a] ∧ H a = some (.lst ys) ∧ (∀ y ∈ ys, ∃ t, y = V.ref t ∧ H t = some (.tup ((k y).map V.int))) ∧ (2 ≤ ys.length → ∀ y ∈ ys, k y ≠ []) ∧
  ∀ zs p, zs.Perm ys → zs.Pairwise (fun x y => ltL (k y) (k x) = false) → H p = none → Q (.ref p) (upd H p (.lst zs))
theorem cr_sortT {X : Cx} : CallR X (.builtin "sorted") rSortT := by
  intro pins s σ H vs us Q I r h
  obtain ⟨a, ys, k, rfl, ha, hx, hk, q⟩ := h
  rw [Vals.ref1 r]
  obtain ⟨hz, its, n, rv, hob⟩ := I.hok a _ ha
  obtain ⟨e1, e2⟩ := refs_back rv fun x m => by
    obtain ⟨t, e, _⟩ := hx x m
    exact ⟨t, e⟩
  have hp : ∀ v ∈ its, TupI s.heap v (k (backV v)) := fun v hv => by
    obtain ⟨t, rfl⟩ := e2 v hv
    have hm : V.ref t ∈ ys := by rw [e1]; exact List.mem_map.mpr ⟨_, hv, rfl⟩
    obtain ⟨t', e, ht⟩ := hx _ hm
    cases e
    obtain ⟨_, its2, r2, o, ho, hc, n, hd⟩ := I.hok _ _ ht
    exact ⟨t, o, its2.toArray, n, rfl, ho, hc, hd, show IntsAre its2.toArray.toList (k (.ref t)) by
      rw [List.toList_toArray]
      exact Vals.ints r2⟩
  have hl : ys.length = its.length := rv.length
  refine SrtO.sorted_ord (swo_ltL fun u => k (backV u)) ⟨_, hob, rfl, n, rfl⟩ (by rw [← hl]; exact hz) (fun h2 h₁ a' ha' kk => ?_) fun out h1 h2 => ?_
  · refine tup_sortable (s := { s with heap := h₁ }) (by omega) (fun v hm => (hp v hm).keeps fun b o e _ => (kk b o e).2) (fun v hm => ?_) fun o e => ?_
    · obtain ⟨t, rfl⟩ := e2 v hm
      exact hk (by omega) _ (by rw [e1]; exact List.mem_map.mpr ⟨_, hm, rfl⟩)
    · have e' : some o = some (seqObj "list" its.toArray 0) := e.symm.trans ha'
      cases e'
      intro c
      exact absurd (Value.type.inj c) (by decide)
  · have h3 : ∀ u ∈ out, ∃ a, u = Value.ref a := fun u hu => e2 u (h2.perm.mem_iff.mp hu)
    obtain ⟨ep, he'⟩ := PyProof.Rows.sortedAll_at s.heap its out.toArray
    have pm : (out.map backV).Perm ys := by
      rw [e1]
      exact h2.perm.map backV
    have hlen : (out.map backV).length ≤ sizeLine := by
      rw [pm.length_eq]
      exact hz
    have pw : (out.map backV).Pairwise (fun x y => ltL (k y) (k x) = false) := List.pairwise_map.mpr h1
    exact ⟨.ref _, upd H (s.heap.objs.size + 1) (.lst (out.map backV)), I.laid (t' := s.toks) (fun _ _ => PyProof.Rows.sortedAll_old) (Nat.le_succ _) ⟨hlen, out, ep, vals_back h3, he'⟩, rfl, q _ _ pm pw (I.hok.fresh (Nat.le_succ _))⟩
end LL

set_option Elab.async false
set_option linter.all false
set_option maxRecDepth 100000
set_option maxHeartbeats 400000
/-! LTr: sets of numbers as bits; the least sets that cross each of some sets -/
namespace LL
open PySem PySem.Spec PyProof.Rows L2
def Sub (x y : Nat) : Prop := x &&& y = x
theorem Sub.iff {x y : Nat} : Sub x y ↔ ∀ i, x.testBit i = true → y.testBit i = true := by
  unfold Sub
  constructor
  · intro h i hx
    rw [← h, Nat.testBit_and, Bool.and_eq_true] at hx
    exact hx.2
  · intro h
    apply Nat.eq_of_testBit_eq
    intro i
    rw [Nat.testBit_and]
    cases e : x.testBit i with
    | false => rfl
    | true => rw [h i e]; rfl
theorem Sub.le {x y : Nat} (h : Sub x y) : x ≤ y := by
  have := Nat.and_le_right (n := x) (m := y)
  rw [h] at this
  exact this
theorem Sub.refl (x : Nat) : Sub x x := Nat.and_self x
theorem Sub.trans {x y z : Nat} (a : Sub x y) (b : Sub y z) : Sub x z := Sub.iff.mpr fun i h => Sub.iff.mp b i (Sub.iff.mp a i h)
theorem Sub.anti {x y : Nat} (a : Sub x y) (b : Sub y x) : x = y := Nat.le_antisymm a.le b.le
theorem nz_iff {x : Nat} : x ≠ 0 ↔ ∃ i, x.testBit i = true := by
  constructor
  · intro h
    obtain ⟨i, hi⟩ := Nat.exists_testBit_ne_of_ne h
    rw [Nat.zero_testBit] at hi
    exact ⟨i, by simpa using hi⟩
  · rintro ⟨i, h⟩ e
    rw [e, Nat.zero_testBit] at h
    cases h
theorem and_nz {x y : Nat} : x &&& y ≠ 0 ↔ ∃ i, x.testBit i = true ∧ y.testBit i = true := by
  rw [nz_iff]
  constructor
  · rintro ⟨i, h⟩
    rw [Nat.testBit_and, Bool.and_eq_true] at h
    exact ⟨i, h⟩
  · rintro ⟨i, h1, h2⟩
    exact ⟨i, by rw [Nat.testBit_and, h1, h2]; rfl⟩
def Crs (T : List Nat) (x : Nat) : Prop := ∀ t ∈ T, x &&& t ≠ 0
theorem Crs.mono {T : List Nat} {x y : Nat} (h : Crs T x) (s : Sub x y) : Crs T y := fun t ht => by
  obtain ⟨i, h1, h2⟩ := and_nz.mp (h t ht)
  exact and_nz.mpr ⟨i, Sub.iff.mp s i h1, h2⟩
def Mn (p : Nat → Prop) (x : Nat) : Prop := p x ∧ ∀ y, p y → Sub y x → y = x
theorem mn_below {p : Nat → Prop} : ∀ (n x : Nat), x ≤ n → p x → ∃ m, Sub m x ∧ Mn p m
  | n, x, hn, hp => by
    by_cases h : ∃ y, p y ∧ Sub y x ∧ y ≠ x
    · obtain ⟨y, h1, h2, h3⟩ := h
      have := h2.le
      cases n with
      | zero => omega
      | succ n =>
        obtain ⟨m, h4, h5⟩ := mn_below n y (by omega) h1
        exact ⟨m, h4.trans h2, h5⟩
    · refine ⟨x, Sub.refl x, hp, fun y hy hs => ?_⟩
      by_cases e : y = x
      · exact e
      · exact absurd ⟨y, hy, hs, e⟩ h
/-- the numbers below n that are in the bits -/
def bitsL (n x : Nat) : List Nat := (List.range n).filter fun i => x.testBit i
theorem bitsL_mem {n x i : Nat} : i ∈ bitsL n x ↔ i < n ∧ x.testBit i = true := by
  unfold bitsL
  rw [List.mem_filter, List.mem_range]
def bitsN (l : List Nat) : Nat := l.foldl (fun b k => b ||| 2 ^ k) 0
theorem bitsN_from (i : Nat) : ∀ (l : List Nat) (b : Nat), (l.foldl (fun b k => b ||| 2 ^ k) b).testBit i = (b.testBit i || decide (i ∈ l))
  | [], b => by simp
  | k :: l, b => by
    rw [List.foldl_cons, bitsN_from i l, Nat.testBit_or, Nat.testBit_two_pow, Bool.or_assoc]
    congr 1
    by_cases e : k = i
    · subst e; simp
    · have : ¬ i = k := fun z => e z.symm
      simp [e, this]
theorem bitsN_test {l : List Nat} {i : Nat} : (bitsN l).testBit i = decide (i ∈ l) := by
  unfold bitsN
  rw [bitsN_from, Nat.zero_testBit, Bool.false_or]
theorem bitsN_lt {l : List Nat} {n : Nat} (h : ∀ k ∈ l, k < n) : bitsN l < 2 ^ n := by
  apply Nat.lt_pow_two_of_testBit
  intro i hi
  rw [bitsN_test]
  exact decide_eq_false fun z => by have := h i z; omega
theorem bitsN_snoc (l : List Nat) (k : Nat) : bitsN (l ++ [k]) = bitsN l ||| 2 ^ k := by
  unfold bitsN
  rw [List.foldl_append]
  rfl
theorem bitsN_L {n x : Nat} (h : x < 2 ^ n) : bitsN (bitsL n x) = x := by
  apply Nat.eq_of_testBit_eq
  intro i
  rw [bitsN_test]
  by_cases hi : i < n
  · cases e : x.testBit i with
    | true => exact decide_eq_true (bitsL_mem.mpr ⟨hi, e⟩)
    | false => exact decide_eq_false fun z => by rw [(bitsL_mem.mp z).2] at e; cases e
  · rw [Nat.testBit_lt_two_pow (Nat.lt_of_lt_of_le h (Nat.pow_le_pow_right (by decide) (by omega)))]
    exact decide_eq_false fun z => hi (bitsL_mem.mp z).1
theorem bitsL_up {n m x : Nat} (h : x < 2 ^ n) (hm : n ≤ m) : bitsL m x = bitsL n x := by
  unfold bitsL
  obtain ⟨d, rfl⟩ : ∃ d, m = n + d := ⟨m - n, by omega⟩
  rw [List.range_add, List.filter_append]
  have e : ((List.range d).map (n + ·)).filter (fun i => x.testBit i) = [] := by
    rw [List.filter_eq_nil_iff]
    intro i hi
    obtain ⟨j, _, rfl⟩ := List.mem_map.mp hi
    rw [Nat.testBit_lt_two_pow (Nat.lt_of_lt_of_le h (Nat.pow_le_pow_right (by decide) (by omega)))]
    decide
  rw [e, List.append_nil]
/-! ### minimal members of a list -/
def leastN (l : List Nat) : List Nat := (srtN l).filter fun one => ((srtN l).filter fun other => decide (other &&& one = other) && decide (other ≠ one)).length == 0
section
variable [KW]
theorem srtN_asc (l : List Nat) : (srtN l).Pairwise (· < ·) := by
  have h := srtU_asc (l.map fun r => ((r : Nat) : Int))
  rw [← srtN_cast, List.pairwise_map] at h
  exact h.imp fun h => by omega
theorem leastN_asc (l : List Nat) : (leastN l).Pairwise (· < ·) := (srtN_asc l).sublist List.filter_sublist
theorem leastN_mem {l : List Nat} {x : Nat} : x ∈ leastN l ↔ x ∈ l ∧ ∀ y ∈ l, Sub y x → y = x := by
  unfold leastN
  rw [List.mem_filter, srtN_mem]
  refine and_congr_right fun hx => ?_
  rw [beq_iff_eq, List.length_eq_zero_iff, List.filter_eq_nil_iff]
  constructor
  · intro h y hy hs
    have := h y (srtN_mem.mpr hy)
    by_cases e : y = x
    · exact e
    · exact absurd (by rw [Bool.and_eq_true]; exact ⟨decide_eq_true hs, decide_eq_true e⟩) this
  · intro h y hy z
    rw [Bool.and_eq_true] at z
    exact of_decide_eq_true z.2 (h y (srtN_mem.mp hy) (show Sub y x from of_decide_eq_true (p := y &&& x = y) z.1))
theorem leastN_len (l : List Nat) : (leastN l).length ≤ l.length := Nat.le_trans (List.length_filter_le _ _) (srtN_len l)
end
/-! ### set by set -/
def newF (n : Nat) (F : List Nat) (t : Nat) : List Nat := F.flatMap fun one => if one &&& t ≠ 0 then [one] else (bitsL n t).map fun k => one ||| 2 ^ k
theorem newF_mem {n : Nat} {F : List Nat} {t x : Nat} : x ∈ newF n F t ↔ ∃ one ∈ F, (one &&& t ≠ 0 ∧ x = one) ∨ (one &&& t = 0 ∧ ∃ k ∈ bitsL n t, x = one ||| 2 ^ k) := by
  unfold newF
  rw [List.mem_flatMap]
  refine exists_congr fun one => and_congr_right fun _ => ?_
  by_cases h : one &&& t ≠ 0
  · rw [if_pos h, List.mem_singleton]
    exact ⟨fun e => .inl ⟨h, e⟩, fun e => e.elim (·.2) fun z => absurd z.1 h⟩
  · rw [if_neg h, List.mem_map]
    have h0 : one &&& t = 0 := by simpa using h
    exact ⟨fun ⟨k, hk, e⟩ => .inr ⟨h0, k, hk, e.symm⟩, fun e => e.elim (fun z => absurd z.1 h) fun ⟨_, k, hk, e⟩ => ⟨k, hk, e.symm⟩⟩
theorem berge [KW] {n : Nat} {F T : List Nat} {t : Nat} (h : ∀ x, x ∈ F ↔ Mn (Crs T) x) (ht : t < 2 ^ n) (x : Nat) : x ∈ leastN (newF n F t) ↔ Mn (Crs (T ++ [t])) x := by
  have crs1 : ∀ z, Crs (T ++ [t]) z ↔ Crs T z ∧ z &&& t ≠ 0 := fun z => by
    unfold Crs
    constructor
    · exact fun h => ⟨fun u hu => h u (List.mem_append_left _ hu), h t (by simp)⟩
    · rintro ⟨h1, h2⟩ u hu
      rcases List.mem_append.mp hu with hu | hu
      · exact h1 u hu
      · rw [List.mem_singleton.mp hu]; exact h2
  have up : ∀ one k : Nat, Sub one (one ||| 2 ^ k) := fun one k => Sub.iff.mpr fun i hi => by rw [Nat.testBit_or, hi]; rfl
  -- each new one crosses
  have c1 : ∀ z ∈ newF n F t, Crs (T ++ [t]) z := fun z hz => by
    obtain ⟨one, ho, h1 | ⟨h1, k, hk, rfl⟩⟩ := newF_mem.mp hz
    · obtain ⟨h1, rfl⟩ := h1
      exact (crs1 _).mpr ⟨((h _).mp ho).1, h1⟩
    · refine (crs1 _).mpr ⟨((h _).mp ho).1.mono (up one k), and_nz.mpr ⟨k, ?_, (bitsL_mem.mp hk).2⟩⟩
      rw [Nat.testBit_or, Nat.testBit_two_pow]
      simp
  -- below each crossing one there is a new one
  have c2 : ∀ z, Crs (T ++ [t]) z → ∃ y ∈ newF n F t, Sub y z := fun z hz => by
    obtain ⟨h1, h2⟩ := (crs1 z).mp hz
    obtain ⟨m, hm, mm⟩ := mn_below z z (Nat.le_refl z) h1
    by_cases hc : m &&& t ≠ 0
    · exact ⟨m, newF_mem.mpr ⟨m, (h m).mpr mm, .inl ⟨hc, rfl⟩⟩, hm⟩
    · obtain ⟨i, i1, i2⟩ := and_nz.mp h2
      have hin : i < n := by
        by_cases hi : i < n
        · exact hi
        · rw [Nat.testBit_lt_two_pow (Nat.lt_of_lt_of_le ht (Nat.pow_le_pow_right (by decide) (by omega)))] at i2
          cases i2
      refine ⟨m ||| 2 ^ i, newF_mem.mpr ⟨m, (h m).mpr mm, .inr ⟨by simpa using hc, i, bitsL_mem.mpr ⟨hin, i2⟩, rfl⟩⟩, Sub.iff.mpr fun j hj => ?_⟩
      rw [Nat.testBit_or, Bool.or_eq_true, Nat.testBit_two_pow] at hj
      rcases hj with hj | hj
      · exact Sub.iff.mp hm j hj
      · have : i = j := by simpa using hj
        rw [← this]; exact i1
  rw [leastN_mem]
  constructor
  · rintro ⟨h1, h2⟩
    refine ⟨c1 x h1, fun y hy hs => ?_⟩
    obtain ⟨z, hz, sz⟩ := c2 y hy
    have e := h2 z hz (sz.trans hs)
    subst e
    exact hs.anti sz
  · rintro ⟨h1, h2⟩
    obtain ⟨z, hz, sz⟩ := c2 x h1
    have e := h2 z (c1 z hz) sz
    subst e
    exact ⟨hz, fun y hy hs => h2 y (c1 y hy) hs⟩
def crossF (n : Nat) (T : List Nat) : List Nat := T.foldl (fun F t => leastN (newF n F t)) [0]
theorem crossF_snoc (n : Nat) (T : List Nat) (t : Nat) : crossF n (T ++ [t]) = leastN (newF n (crossF n T) t) := by
  unfold crossF
  rw [List.foldl_append]
  rfl
theorem mn_nil {x : Nat} : Mn (Crs []) x ↔ x = 0 := by
  constructor
  · rintro ⟨_, h⟩
    exact (h 0 (by intro t ht; cases ht) (Nat.zero_and x)).symm
  · rintro rfl
    refine ⟨(by intro t ht; cases ht), fun y _ hs => ?_⟩
    have := hs.le
    omega
theorem rev_ind {α : Type} {p : List α → Prop} (h0 : p []) (hs : ∀ l a, p l → p (l ++ [a])) (l : List α) : p l := by
  have : ∀ m : List α, p m.reverse := fun m => by
    induction m with
    | nil => exact h0
    | cons a m ih => rw [List.reverse_cons]; exact hs _ _ ih
  have := this l.reverse
  rwa [List.reverse_reverse] at this
theorem crossF_mem [KW] {n : Nat} (T : List Nat) : (∀ t ∈ T, t < 2 ^ n) → ∀ x, x ∈ crossF n T ↔ Mn (Crs T) x := by
  induction T using rev_ind with
  | h0 =>
    intro _ x
    rw [mn_nil]
    show x ∈ [0] ↔ _
    rw [List.mem_singleton]
  | hs T t ih =>
    intro hT x
    rw [crossF_snoc]
    exact berge (ih fun u hu => hT u (List.mem_append_left _ hu)) (hT t (by simp)) x
theorem crossF_asc [KW] {n : Nat} (T : List Nat) : (crossF n T).Pairwise (· < ·) := by
  induction T using rev_ind with
  | h0 => exact List.pairwise_singleton _ _
  | hs T t ih => rw [crossF_snoc]; exact leastN_asc _
theorem mn_lt {n : Nat} {T : List Nat} (hT : ∀ t ∈ T, t < 2 ^ n) {x : Nat} (h : Mn (Crs T) x) : x < 2 ^ n := by
  have e : x % 2 ^ n = x := h.2 _ (fun t ht => by
    obtain ⟨i, h1, h2⟩ := and_nz.mp (h.1 t ht)
    refine and_nz.mpr ⟨i, ?_, h2⟩
    rw [Nat.testBit_mod_two_pow, h1, Bool.and_true]
    by_cases hi : i < n
    · exact decide_eq_true hi
    · rw [Nat.testBit_lt_two_pow (Nat.lt_of_lt_of_le (hT t ht) (Nat.pow_le_pow_right (by decide) (by omega)))] at h2
      cases h2) (Sub.iff.mpr fun i hi => by
    rw [Nat.testBit_mod_two_pow, Bool.and_eq_true] at hi
    exact hi.2)
  rw [← e]
  exact Nat.mod_lt _ (Nat.two_pow_pos n)
/-! ### one by one -/
def leastStep (T : List Nat) (F : List Nat) (b : Nat) : List Nat := if ((T.all fun t => decide (b &&& t ≠ 0)) && !(F.any fun l => decide (b &&& l = l))) = true then F ++ [b] else F
def leastF (n : Nat) (T : List Nat) : List Nat := (List.range (2 ^ n)).foldl (leastStep T) []
theorem leastF_mem (T : List Nat) : ∀ (m x : Nat), x ∈ (List.range m).foldl (leastStep T) [] ↔ x < m ∧ Mn (Crs T) x
  | 0, x => by simp
  | m + 1, x => by
    rw [List.range_succ, List.foldl_append, List.foldl_cons, List.foldl_nil]
    have ih := leastF_mem T m
    generalize (List.range m).foldl (leastStep T) [] = F at ih
    have cr : (T.all fun t => decide (m &&& t ≠ 0)) = true ↔ Crs T m := by
      rw [List.all_eq_true]
      exact ⟨fun h t ht => of_decide_eq_true (h t ht), fun h t ht => decide_eq_true (h t ht)⟩
    have an : (F.any fun l => decide (m &&& l = l)) = true ↔ ∃ y, y < m ∧ Mn (Crs T) y ∧ Sub y m := by
      rw [List.any_eq_true]
      constructor
      · rintro ⟨y, hy, h⟩
        exact ⟨y, ((ih y).mp hy).1, ((ih y).mp hy).2, by have := of_decide_eq_true h; rw [Nat.and_comm] at this; exact this⟩
      · rintro ⟨y, h1, h2, h3⟩
        exact ⟨y, (ih y).mpr ⟨h1, h2⟩, decide_eq_true (by rw [Nat.and_comm]; exact h3)⟩
    have mn : ((T.all fun t => decide (m &&& t ≠ 0)) && !(F.any fun l => decide (m &&& l = l))) = true ↔ Mn (Crs T) m := by
      rw [Bool.and_eq_true, cr, Bool.not_eq_true', ← Bool.not_eq_true, an]
      constructor
      · rintro ⟨h1, h2⟩
        refine ⟨h1, fun y hy hs => ?_⟩
        obtain ⟨z, z1, z2⟩ := mn_below y y (Nat.le_refl y) hy
        have l1 := z1.le
        have l2 := hs.le
        by_cases e : z < m
        · exact absurd ⟨z, e, z2, z1.trans hs⟩ h2
        · omega
      · rintro ⟨h1, h2⟩
        refine ⟨h1, ?_⟩
        rintro ⟨y, y1, y2, y3⟩
        have := h2 y y2.1 y3
        omega
    unfold leastStep
    by_cases c : Mn (Crs T) m
    · rw [if_pos (mn.mpr c), List.mem_append, ih, List.mem_singleton]
      constructor
      · rintro (h | rfl)
        · exact ⟨by omega, h.2⟩
        · exact ⟨by omega, c⟩
      · rintro ⟨h1, h2⟩
        by_cases e : x = m
        · exact .inr e
        · exact .inl ⟨by omega, h2⟩
    · rw [if_neg (fun z => c (mn.mp z)), ih]
      constructor
      · rintro ⟨h1, h2⟩
        exact ⟨by omega, h2⟩
      · rintro ⟨h1, h2⟩
        refine ⟨?_, h2⟩
        by_cases e : x = m
        · subst e; exact absurd h2 c
        · omega
theorem leastF_asc (T : List Nat) : ∀ m : Nat, ((List.range m).foldl (leastStep T) []).Pairwise (· < ·)
  | 0 => List.Pairwise.nil
  | m + 1 => by
    have ih := leastF_asc T m
    have mm := leastF_mem T m
    rw [List.range_succ, List.foldl_append, List.foldl_cons, List.foldl_nil]
    generalize (List.range m).foldl (leastStep T) [] = F at ih mm
    unfold leastStep
    split
    · refine List.pairwise_append.mpr ⟨ih, List.pairwise_singleton _ _, fun x hx y hy => ?_⟩
      rw [List.mem_singleton.mp hy]
      exact ((mm x).mp hx).1
    · exact ih
theorem asc_nodup {l : List Nat} (h : l.Pairwise (· < ·)) : l.Nodup := h.imp fun h => Nat.ne_of_lt h
theorem asc_extN [KW] {l m : List Nat} (h1 : l.Pairwise (· < ·)) (h2 : m.Pairwise (· < ·)) (e : ∀ x, x ∈ l ↔ x ∈ m) : l = m := by
  apply cast_inj
  refine asc_ext (List.pairwise_map.mpr (h1.imp fun h => by omega)) (List.pairwise_map.mpr (h2.imp fun h => by omega)) fun k => ?_
  rw [List.mem_map, List.mem_map]
  exact exists_congr fun x => and_congr_left fun _ => e x
/-- what the program finds is what the law finds -/
theorem least_cross [KW] {n m : Nat} {T : List Nat} (hn : n ≤ m) (hT : ∀ t ∈ T, t < 2 ^ n) : leastF n T = crossF m T := by
  refine asc_extN (leastF_asc T _) (crossF_asc T) fun x => ?_
  unfold leastF
  rw [leastF_mem, crossF_mem T fun t ht => Nat.lt_of_lt_of_le (hT t ht) (Nat.pow_le_pow_right (by decide) hn)]
  exact ⟨fun h => h.2, fun h => ⟨mn_lt hT h, h⟩⟩
/-! ### crossing what crosses -/
theorem dual_crs {n : Nat} {T M : List Nat} (hT : ∀ t ∈ T, t < 2 ^ n) (hM : ∀ x, x ∈ M ↔ Mn (Crs T) x) (b : Nat) : Crs M b ↔ ∃ t ∈ T, Sub t b := by
  constructor
  · intro h
    by_cases c : ∃ t ∈ T, Sub t b
    · exact c
    · exfalso
      have tc : ∀ i, ((2 ^ n - 1) ^^^ (b % 2 ^ n)).testBit i = (decide (i < n) && !b.testBit i) := fun i => by
        rw [Nat.testBit_xor, Nat.testBit_two_pow_sub_one, Nat.testBit_mod_two_pow]
        cases decide (i < n) <;> cases b.testBit i <;> rfl
      have cc : Crs T ((2 ^ n - 1) ^^^ (b % 2 ^ n)) := fun t ht => by
        have hs : ¬ Sub t b := fun z => c ⟨t, ht, z⟩
        have : ∃ i, t.testBit i = true ∧ ¬ b.testBit i = true := by
          by_cases d : ∃ i, t.testBit i = true ∧ ¬ b.testBit i = true
          · exact d
          · refine absurd (Sub.iff.mpr fun i hi => ?_) hs
            by_cases e : b.testBit i = true
            · exact e
            · exact absurd ⟨i, hi, e⟩ d
        obtain ⟨i, h1, h2⟩ := this
        refine and_nz.mpr ⟨i, ?_, h1⟩
        rw [tc, Bool.and_eq_true]
        refine ⟨?_, by simpa using h2⟩
        by_cases hi : i < n
        · exact decide_eq_true hi
        · rw [Nat.testBit_lt_two_pow (Nat.lt_of_lt_of_le (hT t ht) (Nat.pow_le_pow_right (by decide) (by omega)))] at h1
          cases h1
      obtain ⟨m, h1, h2⟩ := mn_below _ _ (Nat.le_refl _) cc
      obtain ⟨i, i1, i2⟩ := and_nz.mp (h m ((hM m).mpr h2))
      have := Sub.iff.mp h1 i i2
      rw [tc, i1] at this
      simp at this
  · rintro ⟨t, ht, hs⟩ m hm
    obtain ⟨i, i1, i2⟩ := and_nz.mp (((hM m).mp hm).1 t ht)
    exact and_nz.mpr ⟨i, Sub.iff.mp hs i i2, i1⟩
theorem dual_mn [KW] {n : Nat} {T M : List Nat} (hT : ∀ t ∈ T, t < 2 ^ n) (hM : ∀ x, x ∈ M ↔ Mn (Crs T) x) (x : Nat) : Mn (Crs M) x ↔ x ∈ leastN T := by
  have dc := dual_crs hT hM
  rw [leastN_mem]
  constructor
  · rintro ⟨h1, h2⟩
    obtain ⟨t, ht, hs⟩ := (dc x).mp h1
    have e := h2 t ((dc t).mpr ⟨t, ht, Sub.refl t⟩) hs
    subst e
    exact ⟨ht, fun y hy hs => h2 y ((dc y).mpr ⟨y, hy, Sub.refl y⟩) hs⟩
  · rintro ⟨h1, h2⟩
    refine ⟨(dc x).mpr ⟨x, h1, Sub.refl x⟩, fun y hy hs => ?_⟩
    obtain ⟨t, ht, st⟩ := (dc y).mp hy
    have e := h2 t ht (st.trans hs)
    subst e
    exact hs.anti st
theorem least_dual [KW] {n : Nat} {T M : List Nat} (hT : ∀ t ∈ T, t < 2 ^ n) (hM : ∀ x, x ∈ M ↔ Mn (Crs T) x) : leastF n M = leastN T := by
  refine asc_extN (leastF_asc M _) (leastN_asc T) fun x => ?_
  unfold leastF
  rw [leastF_mem, dual_mn hT hM]
  exact ⟨fun h => h.2, fun h => ⟨hT x (leastN_mem.mp h).1, h⟩⟩
/-! ### how many they are -/
theorem nodup_lt : ∀ {N : Nat} {l : List Nat}, l.Nodup → (∀ x ∈ l, x < N) → l.length ≤ N
  | 0, l, _, h => by
    cases l with
    | nil => exact Nat.le_refl _
    | cons x l => exact absurd (h x List.mem_cons_self) (Nat.not_lt_zero x)
  | N + 1, l, d, h => by
    have := nodup_lt (N := N) (l := l.erase N) (d.erase N) fun x hx => by
      rw [d.mem_erase_iff] at hx
      have := h x hx.2
      omega
    have := List.le_length_erase (l := l) (a := N)
    omega
theorem anti_len {n : Nat} {l : List Nat} (d : l.Nodup) (h : ∀ x ∈ l, x < 2 ^ (n + 1)) (a : ∀ x ∈ l, ∀ y ∈ l, Sub x y → x = y) : l.length ≤ 2 ^ n := by
  have inj : ∀ x ∈ l, ∀ y ∈ l, x / 2 = y / 2 → x = y := fun x hx y hy e => by
    have tb : ∀ i, x.testBit (i + 1) = y.testBit (i + 1) := fun i => by rw [Nat.testBit_succ, Nat.testBit_succ, e]
    have sub : ∀ {u v : Nat}, (∀ i, u.testBit (i + 1) = v.testBit (i + 1)) → u.testBit 0 = false → Sub u v := fun {u v} t0 z => Sub.iff.mpr fun i hi => by
      cases i with
      | zero => rw [z] at hi; cases hi
      | succ i => rw [← t0]; exact hi
    cases e0 : x.testBit 0 with
    | false => exact a x hx y hy (sub tb e0)
    | true =>
      cases e1 : y.testBit 0 with
      | false => exact (a y hy x hx (sub (fun i => (tb i).symm) e1)).symm
      | true =>
        apply Nat.eq_of_testBit_eq
        intro i
        cases i with
        | zero => rw [e0, e1]
        | succ i => exact tb i
  have nd : (l.map (· / 2)).Nodup := List.pairwise_map.mpr (d.imp_of_mem fun hx hy hne e => hne (inj _ hx _ hy e))
  have := nodup_lt (N := 2 ^ n) nd fun x hx => by
    obtain ⟨y, hy, rfl⟩ := List.mem_map.mp hx
    have := h y hy
    rw [Nat.pow_succ] at this
    omega
  rwa [List.length_map] at this
theorem cnt_succ (n t : Nat) : (bitsL (n + 1) t).length = (bitsL n t).length + if t.testBit n = true then 1 else 0 := by
  unfold bitsL
  rw [List.range_succ, List.filter_append, List.length_append, List.filter_cons, List.filter_nil]
  cases t.testBit n <;> rfl
theorem dis_len : ∀ {n : Nat} {l : List Nat} {t : Nat}, l.Nodup → (∀ x ∈ l, x < 2 ^ n ∧ x &&& t = 0) → l.length * 2 ^ (bitsL n t).length ≤ 2 ^ n
  | 0, l, t, d, h => by
    have := nodup_lt (N := 1) d fun x hx => (h x hx).1
    show l.length * 2 ^ 0 ≤ 2 ^ 0
    omega
  | n + 1, l, t, d, h => by
    have tz : ∀ x ∈ l, ∀ i, x.testBit i = true → t.testBit i = true → False := fun x hx i h1 h2 => and_nz.mpr ⟨i, h1, h2⟩ (h x hx).2
    rw [cnt_succ]
    cases e : t.testBit n with
    | true =>
      rw [if_pos rfl, Nat.pow_succ, Nat.pow_succ]
      have := dis_len (n := n) (t := t) d fun x hx => ⟨by
        apply Nat.lt_pow_two_of_testBit
        intro i hi
        by_cases c : i = n
        · subst c
          cases q : x.testBit i with
          | false => rfl
          | true => exact (tz x hx i q e).elim
        · exact Nat.testBit_lt_two_pow (Nat.lt_of_lt_of_le (h x hx).1 (Nat.pow_le_pow_right (by decide) (by omega))), (h x hx).2⟩
      rw [← Nat.mul_assoc]
      omega
    | false =>
      rw [if_neg (by decide), Nat.add_zero]
      have l0 := dis_len (n := n) (t := t) (l := l.filter fun x => decide (x < 2 ^ n)) (d.sublist List.filter_sublist) fun x hx => by
        rw [List.mem_filter] at hx
        exact ⟨of_decide_eq_true hx.2, (h x hx.1).2⟩
      have hi : ∀ x ∈ l.filter (fun x => !decide (x < 2 ^ n)), x % 2 ^ n + 2 ^ n = x := fun x hx => by
        rw [List.mem_filter] at hx
        have h1 := (h x hx.1).1
        have h2 : ¬ x < 2 ^ n := by simpa using hx.2
        rw [Nat.pow_succ] at h1
        have : x % 2 ^ n = x - 2 ^ n := by
          rw [Nat.mod_eq_sub_mod (by omega), Nat.mod_eq_of_lt (by omega)]
        omega
      have l1 := dis_len (n := n) (t := t) (l := (l.filter fun x => !decide (x < 2 ^ n)).map (· % 2 ^ n)) (List.pairwise_map.mpr ((d.sublist List.filter_sublist).imp_of_mem fun {x y} hx hy hne z => hne (by
          have := hi x hx
          have := hi y hy
          omega))) fun x hx => by
        obtain ⟨y, hy, rfl⟩ := List.mem_map.mp hx
        refine ⟨Nat.mod_lt _ (Nat.two_pow_pos n), ?_⟩
        by_cases c : y % 2 ^ n &&& t = 0
        · exact c
        · obtain ⟨i, i1, i2⟩ := and_nz.mp c
          rw [Nat.testBit_mod_two_pow, Bool.and_eq_true] at i1
          exact (tz y (List.mem_filter.mp hy).1 i i1.2 i2).elim
      rw [List.length_map] at l1
      have el : l.length = (l.filter fun x => decide (x < 2 ^ n)).length + (l.filter fun x => !decide (x < 2 ^ n)).length := by
        rw [← List.length_append]
        exact (List.filter_append_perm _ l).length_eq.symm
      rw [el, Nat.add_mul, Nat.pow_succ]
      omega
theorem newF_len {n : Nat} {t : Nat} : ∀ F : List Nat, (newF n F t).length = (F.filter fun x => decide (x &&& t ≠ 0)).length + (F.filter fun x => !decide (x &&& t ≠ 0)).length * (bitsL n t).length
  | [] => by simp [newF]
  | x :: F => by
    have ih := newF_len (n := n) (t := t) F
    unfold newF at ih ⊢
    rw [List.flatMap_cons, List.length_append, ih, List.filter_cons, List.filter_cons]
    by_cases c : x &&& t ≠ 0
    · rw [if_pos c, if_pos (decide_eq_true c), if_neg (by rw [decide_eq_true c]; decide), List.length_cons, List.length_cons, List.length_nil]
      omega
    · rw [if_neg c, if_neg (by rw [decide_eq_false c]; decide), if_pos (by rw [decide_eq_false c]; rfl), List.length_cons, List.length_map, Nat.add_mul]
      omega
theorem new12_len {F T : List Nat} {t : Nat} (d : F.Nodup) (h : ∀ x, x ∈ F ↔ Mn (Crs T) x) (hT : ∀ u ∈ T, u < 2 ^ 12) : F.length ≤ 2048 ∧ (newF 12 F t).length ≤ 3072 := by
  have h1 : F.length ≤ 2 ^ 11 := anti_len d (fun x hx => mn_lt hT ((h x).mp hx)) fun x hx y hy hs => ((h y).mp hy).2 x ((h x).mp hx).1 hs
  refine ⟨h1, ?_⟩
  have h2 := dis_len (n := 12) (t := t) (l := F.filter fun x => !decide (x &&& t ≠ 0)) (d.sublist List.filter_sublist) fun x hx => by
    rw [List.mem_filter] at hx
    exact ⟨mn_lt hT ((h x).mp hx.1), by simpa using hx.2⟩
  have el : F.length = (F.filter fun x => decide (x &&& t ≠ 0)).length + (F.filter fun x => !decide (x &&& t ≠ 0)).length := by
    rw [← List.length_append]
    exact (List.filter_append_perm _ F).length_eq.symm
  have hs : (bitsL 12 t).length ≤ 12 := by
    have := List.length_filter_le (fun i => t.testBit i) (List.range 12)
    rw [List.length_range] at this
    exact this
  rw [newF_len]
  generalize (F.filter fun x => decide (x &&& t ≠ 0)).length = a at *
  generalize (F.filter fun x => !decide (x &&& t ≠ 0)).length = b at *
  generalize (bitsL 12 t).length = s at *
  obtain rfl | rfl | rfl | rfl | rfl | rfl | rfl | rfl | rfl | rfl | rfl | rfl | rfl : s = 0 ∨ s = 1 ∨ s = 2 ∨ s = 3 ∨ s = 4 ∨ s = 5 ∨ s = 6 ∨ s = 7 ∨ s = 8 ∨ s = 9 ∨ s = 10 ∨ s = 11 ∨ s = 12 := by omega
  all_goals omega
/-! ### as data -/
def bI (x : Nat) : List Int := (bitsL 12 x).map fun i => ((i : Nat) : Int)
theorem bI_inj [KW] {x y : Nat} (hx : x < 2 ^ 12) (hy : y < 2 ^ 12) (e : bI x = bI y) : x = y := by
  have := cast_inj e
  rw [← bitsN_L hx, ← bitsN_L hy, this]
def srtB (l : List Nat) : List Nat := l.mergeSort fun x y => !ltL (bI y) (bI x)
theorem srtB_perm (l : List Nat) : (srtB l).Perm l := List.mergeSort_perm l _
theorem srtB_asc (l : List Nat) : (srtB l).Pairwise fun x y => ltL (bI y) (bI x) = false := by
  have := List.pairwise_mergeSort (le := fun x y => !ltL (bI y) (bI x)) (fun a b c h1 h2 => by
    have h1 : ltL (bI b) (bI a) = false := by simpa using h1
    have h2 : ltL (bI c) (bI b) = false := by simpa using h2
    show (!ltL (bI c) (bI a)) = true
    rw [ltL_tr (bI a) (bI b) (bI c) h1 h2]; rfl) (fun a b => by
    show (!ltL (bI b) (bI a) || !ltL (bI a) (bI b)) = true
    cases e : ltL (bI b) (bI a) with
    | false => rfl
    | true => rw [ltL_asym (bI b) (bI a) e]; rfl) l
  exact this.imp fun h => by simpa using h
theorem srtB_eq [KW] {l m : List Nat} (hl : ∀ x ∈ l, x < 2 ^ 12) (p : m.Perm l) (h : m.Pairwise fun x y => ltL (bI y) (bI x) = false) : m = srtB l := by
  refine List.Perm.eq_of_pairwise (le := fun x y => ltL (bI y) (bI x) = false) (fun x y hx hy a b => ?_) h (srtB_asc l) (p.trans (srtB_perm l).symm)
  exact bI_inj (hl x (p.mem_iff.mp hx)) (hl y ((srtB_perm l).mem_iff.mp hy)) (ltL_tot _ _ b a)
theorem srtB_cong [KW] {l m : List Nat} (hm : ∀ x ∈ m, x < 2 ^ 12) (p : l.Perm m) : srtB l = srtB m := srtB_eq hm ((srtB_perm l).trans p) (srtB_asc l)
def setD (x : Nat) : PyData := .tuple (nD (bitsL 12 x))
def setsD (L : List Nat) : List PyData := (srtB L).map setD
theorem bitsL_len (n x : Nat) : (bitsL n x).length ≤ n := by
  have := List.length_filter_le (fun i => x.testBit i) (List.range n)
  rw [List.length_range] at this
  exact this
end LL

set_option Elab.async false
set_option linter.all false
set_option maxRecDepth 100000
set_option maxHeartbeats 400000
/-! LBits: the bit operations of naturals -/
namespace LL
open PySem PySem.Spec PyProof.Rows L2
theorem bor (a b : Nat) : Builtin.bitOr (a : Int) (b : Int) = ((a ||| b : Nat) : Int) := by
  rw [Bits.bitOr_pp (by omega) (by omega), Int.toNat_natCast, Int.toNat_natCast]
theorem band (a b : Nat) : Builtin.bitAnd (a : Int) (b : Int) = ((a &&& b : Nat) : Int) := by
  rw [bitAnd_pp (by omega) (by omega), Int.toNat_natCast, Int.toNat_natCast]
theorem shl1 (k : Nat) : (1 : Int) * 2 ^ ((k : Nat) : Int).toNat = ((2 ^ k : Nat) : Int) := by
  rw [Int.toNat_natCast, Int.one_mul, Int.natCast_pow]
  rfl
theorem nat_ne {a b : Nat} : (V.int (a : Int) = V.int (b : Int)) ↔ a = b := ⟨fun h => by have := V.int.inj h; omega, fun h => by rw [h]⟩
section
variable {σ : L2.St} {H : Hp} {Q : VK}
theorem rd_shl1 {k : Nat} (h : k ≤ 1000) (q : Q (.int ((2 ^ k : Nat) : Int)) H) : rI CPow (fun i j => V.int (i * 2 ^ j.toNat)) (.int 1) (.int (k : Nat)) H Q :=
  ⟨1, (k : Nat), rfl, rfl, ⟨by omega, by omega, by decide⟩, by show Q (.int (1 * 2 ^ ((k : Nat) : Int).toNat)) H; rw [shl1]; exact q⟩
theorem rd_bor {a b : Nat} (q : Q (.int ((a ||| b : Nat) : Int)) H) : rI0 (fun i j => V.int (Builtin.bitOr i j)) (.int (a : Nat)) (.int (b : Nat)) H Q := ⟨a, b, rfl, rfl, by show Q (.int (Builtin.bitOr (a : Int) (b : Int))) H; rw [bor]; exact q⟩
theorem rd_band {a b : Nat} (q : Q (.int ((a &&& b : Nat) : Int)) H) : rI0 (fun i j => V.int (Builtin.bitAnd i j)) (.int (a : Nat)) (.int (b : Nat)) H Q := ⟨a, b, rfl, rfl, by show Q (.int (Builtin.bitAnd (a : Int) (b : Int))) H; rw [band]; exact q⟩
end
theorem and_pow {x k : Nat} : decide (V.int ((x &&& 2 ^ k : Nat) : Int) = V.int 0) = !x.testBit k := by
  have e : x &&& 2 ^ k = if x.testBit k = true then 2 ^ k else 0 := by
    apply Nat.eq_of_testBit_eq
    intro i
    rw [Nat.testBit_and, Nat.testBit_two_pow]
    by_cases h : k = i
    · subst h
      cases x.testBit k with
      | true => simp [Nat.testBit_two_pow]
      | false => simp
    · rw [decide_eq_false h, Bool.and_false]
      split
      · rw [Nat.testBit_two_pow, decide_eq_false h]
      · rw [Nat.zero_testBit]
  cases h : x.testBit k with
  | true =>
    rw [h, if_pos rfl] at e
    rw [e]
    have := Nat.two_pow_pos k
    exact decide_eq_false fun z => by have := V.int.inj z; omega
  | false =>
    rw [h, if_neg (by decide)] at e
    rw [e]
    exact decide_eq_true rfl
end LL

set_option Elab.async false
set_option linter.all false
set_option maxRecDepth 100000
set_option maxHeartbeats 400000
/-! LNatC: comprehensions over a list of rows -/
namespace LL
open PySem PySem.Spec PyProof.Rows L2
section
variable {X : Cx}
/-- inside a block: the context's K is given by hand -/
theorem call_lenK (K : PySem.W.Frag) (hK : X.K = K) : CallR X (.builtin "len") (fun xs H Q => ∃ p ys, xs = [V.ref p] ∧ (SqL K H p ys ∨ SqT K H p ys) ∧ Q (V.int (ys.length : Nat)) H) := by
  subst hK
  exact call_len_seq
theorem call_tupleK (K : PySem.W.Frag) (hK : X.K = K) : CallR X (.type "tuple") (fun xs H Q => ∃ p ys, xs = [V.ref p] ∧ ((SqL K H p ys ∧ ∀ l, H l = none → Q (.ref l) (upd H l (.tup ys))) ∨ (SqT K H p ys ∧ Q (.ref p) H))) := by
  subst hK
  exact call_tuple_of
theorem pi_listK (K : PySem.W.Frag) (hK : X.K = K) {tg l : Expr} {tl : TE} (hl : PE X l tl) : PI X tg l (iList K tl) := by
  subst hK
  exact pi_list hl
end
section
variable [KW]
variable {K : PySem.W.Frag} {a D : Addr} {T : List Nat} {g : TG} {te : TE} {tt : TT} {vs : List Nat} {σ : L2.St} {H1 : Hp} {Qd : Hp → Prop}
theorem nVl_gt {rows : List Nat} {i : Nat} {x : V} (h : (nVl rows)[i]? = some x) : ∃ k : Nat, rows[i]? = some k ∧ x = .int (k : Nat) := by
  unfold nVl at h
  rw [List.getElem?_map, Option.map_eq_some_iff] at h
  obtain ⟨k, hk, rfl⟩ := h
  exact ⟨k, hk, rfl⟩
theorem nVl_lth (rows : List Nat) : (nVl rows).length = rows.length := by unfold nVl; rw [List.length_map]
theorem take_snc {α : Type} {l : List α} {i : Nat} {k : α} (h : l[i]? = some k) : l.take (i + 1) = l.take i ++ [k] := by rw [List.take_add_one, h]; rfl
theorem lc_natL (ys : Nat → V) (hD : H1 D = none) (src : H1 a = some (.lst (nVl T))) (hz : T.length ≤ 1000000)
    (hs : ∀ (k : Nat) (H : Hp) (acc : List V) (R : V → Hp → Prop), k ∈ T → Adv [] H1 H → H D = some (.lst acc) → (∀ H4, H4 D = some (.lst acc) → Adv [] H1 H4 → R (ys k) H4) → g (.int (k : Nat)) (wipe σ vs) H fun σ2 H2 => wipe σ2 vs = wipe σ vs ∧ te σ2 H2 R)
    (hd : ∀ H, Adv [] H1 H → H D = some (.lst (T.map ys)) → Qd H) :
    ∃ W : Nat → Nat → Hp → Prop, (∃ m, W 0 m (upd H1 D (.lst []))) ∧ ∀ i m H, W i m H →
      ((Itl K a).stop i H ∧ Qd H) ∨ ((Itl K a).go i H ∧ ∃ Nx : Hp → Prop, (∀ H', Nx H' → ∃ m', m' < m ∧ W (i + 1) m' H') ∧ ∀ x H', (Itl K a).yld i H x H' → g x (wipe σ vs) H' fun σ2 H2 => wipe σ2 vs = wipe σ vs ∧ tYes σ2 H2 fun b H3 =>
        if b = true then te σ2 H3 fun y H4 => ∃ acc, H4 D = some (.lst acc) ∧ acc.length < sizeLine ∧ Nx (upd H4 D (.lst (acc ++ [y]))) else Nx H3) := by
  refine lc_list (K := K) (a := a) (xs := nVl T) (tt := tYes) (fun i H => Adv [] H1 H ∧ H D = some (.lst ((T.take i).map ys))) ⟨Adv.new hD, upd_same⟩ (fun i H _ p => SqL.of (p.1.same _ _ src)) (fun i x H hx p => ?_) (fun H p => ?_)
  · obtain ⟨k, hk, rfl⟩ := nVl_gt hx
    refine hs k H _ (fun y H4 => ∃ acc, H4 D = some (.lst acc) ∧ acc.length < sizeLine ∧ Adv [] H1 (upd H4 D (.lst (acc ++ [y]))) ∧ (upd H4 D (.lst (acc ++ [y]))) D = some (.lst ((T.take (i + 1)).map ys))) (List.mem_of_getElem? hk) p.1 p.2 (fun H4 e4 a4 => ⟨_, e4, ?_, Adv.mut a4 hD, ?_⟩)
    · rw [List.length_map, List.length_take, sizeLine_eq]
      omega
    · rw [upd_same, take_snc hk, List.map_append]
      rfl
  · obtain ⟨p1, p2⟩ := p
    rw [nVl_lth, List.take_length] at p2
    exact hd H p1 p2
theorem lc_filtL (ys : Nat → V) (c : Nat → Bool) (hD : H1 D = none) (src : H1 a = some (.lst (nVl T))) (hz : T.length ≤ 1000000)
    (hs : ∀ (k : Nat) (H : Hp) (acc : List V) (R : V → Hp → Prop) (R0 : Hp → Prop), k ∈ T → Adv [] H1 H → H D = some (.lst acc) → (c k = true → ∀ H4, H4 D = some (.lst acc) → Adv [] H1 H4 → R (ys k) H4) →
      (c k = false → ∀ H4, H4 D = some (.lst acc) → Adv [] H1 H4 → R0 H4) → g (.int (k : Nat)) (wipe σ vs) H fun σ2 H2 => wipe σ2 vs = wipe σ vs ∧ tt σ2 H2 fun b H3 => if b = true then te σ2 H3 R else R0 H3)
    (hd : ∀ H, Adv [] H1 H → H D = some (.lst ((T.filter c).map ys)) → Qd H) :
    ∃ W : Nat → Nat → Hp → Prop, (∃ m, W 0 m (upd H1 D (.lst []))) ∧ ∀ i m H, W i m H →
      ((Itl K a).stop i H ∧ Qd H) ∨ ((Itl K a).go i H ∧ ∃ Nx : Hp → Prop, (∀ H', Nx H' → ∃ m', m' < m ∧ W (i + 1) m' H') ∧ ∀ x H', (Itl K a).yld i H x H' → g x (wipe σ vs) H' fun σ2 H2 => wipe σ2 vs = wipe σ vs ∧ tt σ2 H2 fun b H3 =>
        if b = true then te σ2 H3 fun y H4 => ∃ acc, H4 D = some (.lst acc) ∧ acc.length < sizeLine ∧ Nx (upd H4 D (.lst (acc ++ [y]))) else Nx H3) := by
  refine lc_list (K := K) (a := a) (xs := nVl T) (tt := tt) (fun i H => Adv [] H1 H ∧ H D = some (.lst (((T.take i).filter c).map ys))) ⟨Adv.new hD, upd_same⟩ (fun i H _ p => SqL.of (p.1.same _ _ src)) (fun i x H hx p => ?_) (fun H p => ?_)
  · obtain ⟨k, hk, rfl⟩ := nVl_gt hx
    refine hs k H _ (fun y H4 => ∃ acc, H4 D = some (.lst acc) ∧ acc.length < sizeLine ∧ Adv [] H1 (upd H4 D (.lst (acc ++ [y]))) ∧ (upd H4 D (.lst (acc ++ [y]))) D = some (.lst (((T.take (i + 1)).filter c).map ys)))
      (fun H3 => Adv [] H1 H3 ∧ H3 D = some (.lst (((T.take (i + 1)).filter c).map ys))) (List.mem_of_getElem? hk) p.1 p.2 (fun hc H4 e4 a4 => ⟨_, e4, ?_, Adv.mut a4 hD, ?_⟩) (fun hc H4 e4 a4 => ⟨a4, ?_⟩)
    · have h1 := List.length_filter_le c (T.take i)
      rw [List.length_take] at h1
      rw [List.length_map, sizeLine_eq]
      omega
    · rw [upd_same, take_snc hk, List.filter_append, List.map_append, List.filter_cons, if_pos hc]
      rfl
    · rw [e4, take_snc hk, List.filter_append, List.filter_cons, if_neg (by rw [hc]; decide), List.filter_nil, List.append_nil]
  · obtain ⟨p1, p2⟩ := p
    rw [nVl_lth, List.take_length] at p2
    exact hd H p1 p2
/-- each item gives an object: what is said of it must bear changes at D -/
theorem lc_relL {xs : List V} (Rl : Nat → V → Hp → Prop) (hD : H1 D = none) (src : H1 a = some (.lst xs)) (hz : xs.length ≤ 1000000)
    (mono : ∀ i v H H', Rl i v H → Adv [D] H H' → Rl i v H')
    (hs : ∀ (i : Nat) (x : V) (H : Hp) (acc : List V) (R : V → Hp → Prop), xs[i]? = some x → Adv [] H1 H → H D = some (.lst acc) → (∀ y H4, H4 D = some (.lst acc) → Adv [] H H4 → Rl i y H4 → R y H4) → g x (wipe σ vs) H fun σ2 H2 => wipe σ2 vs = wipe σ vs ∧ te σ2 H2 R)
    (hd : ∀ H ys, Adv [] H1 H → H D = some (.lst ys) → ys.length = xs.length → (∀ i y, ys[i]? = some y → Rl i y H) → Qd H) :
    ∃ W : Nat → Nat → Hp → Prop, (∃ m, W 0 m (upd H1 D (.lst []))) ∧ ∀ i m H, W i m H →
      ((Itl K a).stop i H ∧ Qd H) ∨ ((Itl K a).go i H ∧ ∃ Nx : Hp → Prop, (∀ H', Nx H' → ∃ m', m' < m ∧ W (i + 1) m' H') ∧ ∀ x H', (Itl K a).yld i H x H' → g x (wipe σ vs) H' fun σ2 H2 => wipe σ2 vs = wipe σ vs ∧ tYes σ2 H2 fun b H3 =>
        if b = true then te σ2 H3 fun y H4 => ∃ acc, H4 D = some (.lst acc) ∧ acc.length < sizeLine ∧ Nx (upd H4 D (.lst (acc ++ [y]))) else Nx H3) := by
  refine lc_list (K := K) (a := a) (xs := xs) (tt := tYes) (fun i H => Adv [] H1 H ∧ ∃ ys, H D = some (.lst ys) ∧ ys.length = i ∧ ∀ j y, ys[j]? = some y → Rl j y H) ⟨Adv.new hD, [], upd_same, rfl, by simp⟩ (fun i H _ p => SqL.of (p.1.same _ _ src)) (fun i x H hx p => ?_) (fun H p => ?_)
  · obtain ⟨p1, ys, p2, p3, p4⟩ := p
    have hi : i < xs.length := (List.getElem?_eq_some_iff.mp hx).1
    refine hs i x H ys (fun y H4 => ∃ acc, H4 D = some (.lst acc) ∧ acc.length < sizeLine ∧ Adv [] H1 (upd H4 D (.lst (acc ++ [y]))) ∧ ∃ zs, (upd H4 D (.lst (acc ++ [y]))) D = some (.lst zs) ∧ zs.length = i + 1 ∧ ∀ j y', zs[j]? = some y' → Rl j y' (upd H4 D (.lst (acc ++ [y])))) hx p1 p2 (fun y H4 e4 a4 r4 => ⟨_, e4, ?_, Adv.mut (p1.trans a4) hD, _, upd_same, by rw [List.length_append, p3]; rfl, fun j y' hj => ?_⟩)
    · rw [p3, sizeLine_eq]
      omega
    · have c : Adv [D] H4 (upd H4 D (.lst (ys ++ [y]))) := Adv.set (by simp)
      by_cases hj2 : j < ys.length
      · rw [List.getElem?_append_left hj2] at hj
        exact mono _ _ _ _ (p4 j y' hj) (Adv.nil a4 |>.trans c)
      · rw [List.getElem?_append_right (by omega)] at hj
        have e0 : j - ys.length = 0 := by
          have := (List.getElem?_eq_some_iff.mp hj).1
          simp at this
          omega
        rw [e0] at hj
        have ey : y = y' := by simpa using hj
        have ej : j = i := by omega
        subst ey ej
        exact mono _ _ _ _ r4 c
  · obtain ⟨p1, ys, p2, p3, p4⟩ := p
    exact hd H ys p1 p2 p3 p4
end
end LL

set_option Elab.async false
set_option linter.all false
set_option maxRecDepth 100000
set_option maxHeartbeats 400000
/-! LIsA: isinstance of the held error in its suite, its class not yet known -/
namespace LL
open PySem PySem.Spec PyProof.Rows L2 L2H
def rIsA (K : PySem.W.Frag) (cls : Value) (a : Addr) (d : Option Addr) : List V → Hp → VK → Prop := fun xs H Q => ∃ (D : Addr), cls = .ref D ∧ ExcC K D ∧ rIsP K D a d xs H Q
theorem call_isA {X : Cx} (K : PySem.W.Frag) (hK : X.K = K) {a : Addr} {cls : Value} {oe : Obj} {d : Option Addr} (hz : Zc cls d oe) (hf : ∃ vs, oe.data = .fields vs) (hp : (a, oe) ∈ X.pn) : CallR X (.builtin "isinstance") (rIsA K cls a d) := by
  subst hK
  intro pins s σ H xs us Q I r h
  obtain ⟨D, rfl, C, h⟩ := h
  exact call_isP C hz hf hp pins s σ H xs us Q I r h
end LL

set_option Elab.async false
set_option linter.all false
set_option maxRecDepth 100000
set_option maxHeartbeats 400000
/-! LLt: x < y of ints or of tuples of ints; targets that are pairs, inside a block -/
namespace LL
open PySem PySem.Spec PyProof.Rows L2
theorem lt_un {k : Nat} {A : Around} (h : Room k A) : A.units < cLine := by
  have := h.un
  omega
section
variable {X : Cx}
def rLtT (K : PySem.W.Frag) : R2 := fun x y H Q => ∃ (a b : Addr) (ns ms : List Int), x = .ref a ∧ y = .ref b ∧ SqT K H a (ns.map V.int) ∧ SqT K H b (ms.map V.int) ∧
  Q (.bl (Ob.lexAt (fun j => decide (ns.getD j 0 = ms.getD j 0)) (fun j => decide (ns.getD j 0 < ms.getD j 0)) (decide (ns.length < ms.length)) 0 (min ns.length ms.length))) H
theorem op_ltT (hu : X.A.units < cLine) : OpR X (compareOp .Lt) (rLtT X.K) := by
  intro pins s σ H x y v u Q I rx ry h
  obtain ⟨a, b, ns, ms, rfl, rfl, ha, hb, q⟩ := h
  cases rx
  cases ry
  obtain ⟨its, r1, p1, _⟩ := I.tuple ha
  obtain ⟨its2, r2, p2, _⟩ := I.tuple hb
  have i1 : IntsAre its ns := Vals.ints r1
  have i2 : IntsAre its2 ms := Vals.ints r2
  have e1 : its.toArray.size = ns.length := by rw [List.size_toArray]; exact i1.length
  have e2 : its2.toArray.size = ms.length := by rw [List.size_toArray]; exact i2.length
  have at1 : ∀ j (h1 : j < its.toArray.size), ∃ t, its.toArray[j] = .int (ns.getD j 0) t := fun j h1 => PyProof.Rows.IntsAre.int_at i1 _ _ (by simp at h1; simp [h1])
  have at2 : ∀ j (h1 : j < its2.toArray.size), ∃ t, its2.toArray[j] = .int (ms.getD j 0) t := fun j h1 => PyProof.Rows.IntsAre.int_at i2 _ _ (by simp at h1; simp [h1])
  have R := Ob.RcOp.tuples_lt (A := X.A) (s := s) (e := fun j => decide (ns.getD j 0 = ms.getD j 0)) (r := fun j => decide (ns.getD j 0 < ms.getD j 0)) p1 p2 hu (fun j h1 h2 => by
    obtain ⟨t, et⟩ := at1 j h1
    obtain ⟨t', et'⟩ := at2 j h2
    rw [et, et']
    have z : (ns.getD j 0 == ms.getD j 0) = decide (ns.getD j 0 = ms.getD j 0) := by
      by_cases q : ns.getD j 0 = ms.getD j 0
      · rw [decide_eq_true q]; exact beq_iff_eq.mpr q
      · rw [decide_eq_false q]; exact beq_eq_false_iff_ne.mpr q
    rw [← z]
    exact SeqAt.EqAt.int_int _ _ _ _) (fun j h1 h2 _ => by
    obtain ⟨t, et⟩ := at1 j h1
    obtain ⟨t', et'⟩ := at2 j h2
    rw [et, et']
    exact Ob.RcOp.lt_int _ _ _ _)
  rw [e1, e2] at R
  have z : wpAny (model X.prog X.w) X.A (compareOp .Lt (.ref a) (.ref b)) (EP X pins σ Q) X.xe s := R X.prog X.w X.xe (EP X pins σ Q) ⟨.bl _, H, I, rfl, q⟩
  exact z
/-- both ints, or both tuples of ints -/
def rLtA (K : PySem.W.Frag) : R2 := fun x y H Q => rI0 (fun i j => .bl (decide (i < j))) x y H Q ∨ rLtT K x y H Q
theorem op_ltA (K : PySem.W.Frag) (hK : X.K = K) (hu : X.A.units < cLine) : OpR X (compareOp .Lt) (rLtA K) := by
  subst hK
  intro pins s σ H x y v u Q I rx ry h
  rcases h with h | h
  · exact op_lt pins s σ H x y v u Q I rx ry h
  · exact op_ltT hu pins s σ H x y v u Q I rx ry h
theorem pg_tupK (K : PySem.W.Frag) (hK : X.K = K) {pos : Pos} {es : List Expr} {k : Nat} {t : TGs} {n : Nat} (hc : X.calm = true) (h : PGs X es t)
    (hn : (assignEach es X.env).length = n := by rfl) (hst : (assignEach es X.env).findIdx? (·.1) = none := by rfl) : PG X (.Tuple es k pos) (gTup K n t) := by
  subst hK
  exact pg_tup hc h hn hst
theorem ix_listK (K : PySem.W.Frag) (hK : X.K = K) : IxR X (rIxL K) := by
  subst hK
  exact ix_list
theorem ix_tupK (K : PySem.W.Frag) (hK : X.K = K) : IxR X (rIxT K) := by
  subst hK
  exact ix_tup
theorem ix_anyK (K : PySem.W.Frag) (hK : X.K = K) : IxR X (fun x y H Q => rIxL K x y H Q ∨ rIxT K x y H Q) := by
  subst hK
  exact ix_or ix_list ix_tup
end
end LL

set_option Elab.async false
set_option linter.all false
set_option maxRecDepth 100000
set_option maxHeartbeats 400000
/-! LMod: models as masks; truths as masks -/
namespace LL
open PySem PySem.Spec PyProof.Rows L2
/-- what world v sees -/
def sA (ss : List Nat) (v : Nat) : Nat := ss.getD v 0
def arcsF (ss : List Nat) : List (Nat × Nat) := (List.range ss.length).flatMap fun v => (bitsL ss.length (sA ss v)).map fun w => (v, w)
theorem arcsF_mem {ss : List Nat} {v w : Nat} : (v, w) ∈ arcsF ss ↔ v < ss.length ∧ w < ss.length ∧ (sA ss v).testBit w = true := by
  unfold arcsF
  rw [List.mem_flatMap]
  constructor
  · rintro ⟨u, hu, h⟩
    obtain ⟨x, hx, e⟩ := List.mem_map.mp h
    cases e
    have := bitsL_mem.mp hx
    exact ⟨List.mem_range.mp hu, this.1, this.2⟩
  · rintro ⟨h1, h2, h3⟩
    exact ⟨v, List.mem_range.mpr h1, List.mem_map.mpr ⟨w, bitsL_mem.mpr ⟨h2, h3⟩, rfl⟩⟩
def ltP (a b : Nat × Nat) : Prop := a.1 < b.1 ∨ (a.1 = b.1 ∧ a.2 < b.2)
theorem bitsL_asc (n x : Nat) : (bitsL n x).Pairwise (· < ·) := (List.pairwise_lt_range (n := n)).sublist List.filter_sublist
theorem arcsF_asc (ss : List Nat) : (arcsF ss).Pairwise ltP := by
  unfold arcsF
  rw [List.flatMap, List.pairwise_flatten]
  constructor
  · intro l hl
    obtain ⟨v, _, rfl⟩ := List.mem_map.mp hl
    exact List.pairwise_map.mpr ((bitsL_asc _ _).imp fun h => .inr ⟨rfl, h⟩)
  · refine List.pairwise_map.mpr ((List.pairwise_lt_range (n := ss.length)).imp fun {u v} h => ?_)
    intro a ha b hb
    obtain ⟨x, _, rfl⟩ := List.mem_map.mp ha
    obtain ⟨y, _, rfl⟩ := List.mem_map.mp hb
    exact .inl h
theorem arcsF_len (ss : List Nat) : (arcsF ss).length ≤ ss.length * ss.length := by
  unfold arcsF
  rw [List.length_flatMap]
  have : ∀ l : List Nat, (l.map fun v => ((bitsL ss.length (sA ss v)).map fun w => (v, w)).length).sum ≤ l.length * ss.length := by
    intro l
    induction l with
    | nil => simp
    | cons v l ih =>
      rw [List.map_cons, List.sum_cons, List.length_cons, List.length_map, Nat.add_mul]
      have := bitsL_len ss.length (sA ss v)
      omega
  have := this (List.range ss.length)
  rwa [List.length_range] at this
/-! ### the masks of arcs -/
def masksF (n : Nat) (arcs : List (Nat × Nat)) : List Nat := arcs.foldl (fun m a => m.set a.1 (sA m a.1 ||| 2 ^ a.2)) (List.replicate n 0)
theorem sA_set {m : List Nat} {v x u : Nat} (hv : v < m.length) : sA (m.set v x) u = if u = v then x else sA m u := by
  unfold sA
  rw [List.getD_eq_getElem?_getD, List.getD_eq_getElem?_getD, List.getElem?_set]
  by_cases e : v = u
  · subst e; simp [hv]
  · rw [if_neg e, if_neg fun z => e z.symm]
theorem masks_from : ∀ (arcs : List (Nat × Nat)) (m : List Nat), (∀ a ∈ arcs, a.1 < m.length) → (arcs.foldl (fun m a => m.set a.1 (sA m a.1 ||| 2 ^ a.2)) m).length = m.length ∧
    ∀ v w, (sA (arcs.foldl (fun m a => m.set a.1 (sA m a.1 ||| 2 ^ a.2)) m) v).testBit w = ((sA m v).testBit w || decide ((v, w) ∈ arcs))
  | [], m, _ => ⟨rfl, fun v w => by simp⟩
  | (a, b) :: arcs, m, h => by
    have ha : a < m.length := h (a, b) List.mem_cons_self
    obtain ⟨h1, h2⟩ := masks_from arcs (m.set a (sA m a ||| 2 ^ b)) (fun c hc => by rw [List.length_set]; exact h c (List.mem_cons_of_mem _ hc))
    rw [List.foldl_cons]
    refine ⟨by rw [h1, List.length_set], fun v w => ?_⟩
    rw [h2, sA_set ha]
    by_cases e : v = a
    · subst e
      rw [if_pos rfl, Nat.testBit_or, Nat.testBit_two_pow, Bool.or_assoc]
      congr 1
      by_cases e2 : b = w
      · subst e2; simp
      · have : ¬ w = b := fun z => e2 z.symm
        simp [e2, this]
    · rw [if_neg e]
      congr 1
      simp [e]
theorem masksF_arcs {ss : List Nat} (h : ∀ x ∈ ss, x < 2 ^ ss.length) : masksF ss.length (arcsF ss) = ss := by
  unfold masksF
  obtain ⟨h1, h2⟩ := masks_from (arcsF ss) (List.replicate ss.length 0) (fun a ha => by
    rw [List.length_replicate]
    exact (arcsF_mem.mp (show (a.1, a.2) ∈ arcsF ss from ha)).1)
  rw [List.length_replicate] at h1
  apply List.ext_getElem h1
  intro v hv hv2
  have e : ∀ m : List Nat, (hm : v < m.length) → m[v] = sA m v := fun m hm => by
    unfold sA
    rw [List.getD_eq_getElem?_getD, List.getElem?_eq_getElem hm]
    rfl
  rw [e _ hv, e _ hv2]
  apply Nat.eq_of_testBit_eq
  intro w
  rw [h2]
  have z : (sA (List.replicate ss.length 0) v).testBit w = false := by
    unfold sA
    rw [List.getD_eq_getElem?_getD, List.getElem?_replicate, if_pos hv2]
    exact Nat.zero_testBit w
  rw [z, Bool.false_or]
  cases c : (sA ss v).testBit w with
  | false => exact decide_eq_false fun z => by rw [(arcsF_mem.mp z).2.2] at c; cases c
  | true =>
    refine decide_eq_true (arcsF_mem.mpr ⟨hv2, ?_, c⟩)
    by_cases hw : w < ss.length
    · exact hw
    · have hx : sA ss v < 2 ^ ss.length := by rw [← e ss hv2]; exact h _ (List.getElem_mem hv2)
      rw [Nat.testBit_lt_two_pow (Nat.lt_of_lt_of_le hx (Nat.pow_le_pow_right (by decide) (by omega)))] at c
      cases c
theorem sA_lt {n : Nat} {ss : List Nat} (h : ∀ x ∈ ss, x < 2 ^ n) (v : Nat) : sA ss v < 2 ^ n := by
  unfold sA
  rw [List.getD_eq_getElem?_getD]
  cases e : ss[v]? with
  | none => exact Nat.two_pow_pos n
  | some x => exact h x (List.mem_of_getElem? e)
/-! ### models -/
def loopsL (ss : List Nat) : List Nat := (List.range ss.length).filter fun v => (sA ss v).testBit v
def transB (ss : List Nat) : Bool := (arcsF ss).all fun a => decide (sA ss a.1 ||| sA ss a.2 = sA ss a.1)
def propB (x : Str) (ss : List Nat) : Bool := if x = "classical" then decide (arcsF ss = []) else if x = "k" then true else decide ((loopsL ss).length = if x = "gl" then 0 else ss.length) && transB ss
def keptB (ss : List Nat) (L : Nat → Nat) : Bool := (List.range 8).all fun i => (bitsL ss.length (L i)).all fun v => decide (sA ss v ||| L i = L i)
def pD (a : Nat × Nat) : PyData := .tuple [.int (a.1 : Nat), .int (a.2 : Nat)]
def ltD (n : Nat) (L : Nat → Nat) : List PyData := (List.range 8).map fun i => .list (nD (bitsL n (L i)))
def modD (ss : List Nat) (L : Nat → Nat) : PyData := .tuple [.int (ss.length : Nat), .list ((arcsF ss).map pD), .tuple (ltD ss.length L)]
/-- a model of the right form -/
structure RtM (ss : List Nat) (L : Nat → Nat) : Prop where
  pos : 1 ≤ ss.length
  le : ss.length ≤ 256
  lt : ∀ x ∈ ss, x < 2 ^ ss.length
  ll : ∀ i, L i < 2 ^ ss.length
theorem or_sub {a b : Nat} : (b ||| a = a) ↔ Sub b a := by
  constructor
  · intro h
    refine Sub.iff.mpr fun i hi => ?_
    rw [← h, Nat.testBit_or, hi]
    rfl
  · intro h
    apply Nat.eq_of_testBit_eq
    intro i
    rw [Nat.testBit_or]
    cases e : b.testBit i with
    | false => rfl
    | true => rw [Sub.iff.mp h i e]; rfl
/-! ### truths -/
def every (n : Nat) : Nat := 2 ^ n - 1
def boxM (ss : List Nat) (h : Nat) : Nat := bitsN ((List.range ss.length).filter fun v => decide (sA ss v ||| h = h))
theorem boxM_test {ss : List Nat} {h v : Nat} : (boxM ss h).testBit v = true ↔ v < ss.length ∧ Sub (sA ss v) h := by
  unfold boxM
  rw [bitsN_test, decide_eq_true_eq, List.mem_filter, List.mem_range, decide_eq_true_eq, or_sub]
theorem boxM_lt (ss : List Nat) (h : Nat) : boxM ss h < 2 ^ ss.length := bitsN_lt fun k hk => List.mem_range.mp (List.mem_filter.mp hk).1
theorem every_test {n i : Nat} : (every n).testBit i = decide (i < n) := Nat.testBit_two_pow_sub_one n i
def tmS (intu : Bool) (ss : List Nat) (L : Nat → Nat) (f : List Nat) : Nd → Nat
  | .letter i => L i
  | .no => 0
  | .bin .and j k => sA f j &&& sA f k
  | .bin .or j k => sA f j ||| sA f k
  | .bin .imp j k => if intu = true then boxM ss ((every ss.length ^^^ sA f j) ||| sA f k) else (every ss.length ^^^ sA f j) ||| sA f k
  | .box j => boxM ss (sA f j)
def tmF (intu : Bool) (ss : List Nat) (L : Nat → Nat) (ns : List Nd) : List Nat := ns.foldl (fun f n => f ++ [tmS intu ss L f n]) []
end LL

set_option Elab.async false
set_option linter.all false
set_option maxRecDepth 100000
set_option maxHeartbeats 400000
/-! LSch: the schemes T, 4, Lob, K and their arcs -/
namespace LL
open PySem PySem.Spec PyProof.Rows L2
def im (n a b : Nat) : Nat := (every n ^^^ a) ||| b
theorem im_test {n a b i : Nat} : (im n a b).testBit i = ((decide (i < n) ^^ a.testBit i) || b.testBit i) := by
  unfold im
  rw [Nat.testBit_or, Nat.testBit_xor, every_test]
theorem lt_bit {n a i : Nat} (h : a < 2 ^ n) (hi : a.testBit i = true) : i < n := by
  by_cases c : i < n
  · exact c
  · rw [Nat.testBit_lt_two_pow (Nat.lt_of_lt_of_le h (Nat.pow_le_pow_right (by decide) (by omega)))] at hi
    cases hi
theorem xor_lt {n a : Nat} (h : a < 2 ^ n) : every n ^^^ a < 2 ^ n := Nat.xor_lt_two_pow (by unfold every; have := Nat.two_pow_pos n; omega) h
theorem im_lt {n a b : Nat} (ha : a < 2 ^ n) (hb : b < 2 ^ n) : im n a b < 2 ^ n := Nat.or_lt_two_pow (xor_lt ha) hb
theorem every_lt (n : Nat) : every n < 2 ^ n := by unfold every; have := Nat.two_pow_pos n; omega
theorem im_yes {n a b i : Nat} (hi : i < n) : (im n a b).testBit i = true ↔ (a.testBit i = true → b.testBit i = true) := by
  rw [im_test, decide_eq_true hi]
  cases a.testBit i <;> cases b.testBit i <;> simp
theorem im_every {n a b : Nat} (ha : a < 2 ^ n) (hb : b < 2 ^ n) : im n a b = every n ↔ Sub a b := by
  constructor
  · intro h
    refine Sub.iff.mpr fun i hi => ?_
    have hin := lt_bit ha hi
    have : (im n a b).testBit i = true := by rw [h, every_test]; exact decide_eq_true hin
    exact (im_yes hin).mp this hi
  · intro h
    apply Nat.eq_of_testBit_eq
    intro i
    rw [every_test]
    by_cases hin : i < n
    · rw [decide_eq_true hin]
      exact (im_yes hin).mpr fun hi => Sub.iff.mp h i hi
    · rw [decide_eq_false hin]
      cases e : (im n a b).testBit i with
      | false => rfl
      | true => exact absurd (lt_bit (im_lt ha hb) e) hin
/-! ### what holds of arcs -/
section
variable {ss : List Nat}
def Rfx (ss : List Nat) : Prop := ∀ v, v < ss.length → (sA ss v).testBit v = true
def Irr (ss : List Nat) : Prop := ∀ v, v < ss.length → (sA ss v).testBit v = false
def Trn (ss : List Nat) : Prop := ∀ u v, u < ss.length → v < ss.length → (sA ss u).testBit v = true → Sub (sA ss v) (sA ss u)
theorem t_all (h : Rfx ss) (P : Nat) : Sub (boxM ss P) P := Sub.iff.mpr fun v hv => by
  obtain ⟨h1, h2⟩ := boxM_test.mp hv
  exact Sub.iff.mp h2 v (h v h1)
theorem minus_test {n v i : Nat} (hv : v < n) : (every n ^^^ 2 ^ v).testBit i = (decide (i < n) && !decide (v = i)) := by
  rw [Nat.testBit_xor, every_test, Nat.testBit_two_pow]
  by_cases e : v = i
  · subst e; rw [decide_eq_true hv]; simp
  · rw [decide_eq_false e]; simp
theorem t_ref (hlt : ∀ x ∈ ss, x < 2 ^ ss.length) {v : Nat} (hv : v < ss.length) (h : (sA ss v).testBit v = false) : ¬ Sub (boxM ss (every ss.length ^^^ 2 ^ v)) (every ss.length ^^^ 2 ^ v) := fun z => by
  have h1 : (boxM ss (every ss.length ^^^ 2 ^ v)).testBit v = true := boxM_test.mpr ⟨hv, Sub.iff.mpr fun i hi => by
    rw [minus_test hv, decide_eq_true (lt_bit (sA_lt hlt v) hi)]
    by_cases e : v = i
    · subst e; rw [h] at hi; cases hi
    · rw [decide_eq_false e]; rfl⟩
  have := Sub.iff.mp z v h1
  rw [minus_test hv] at this
  simp at this
theorem f_all (hlt : ∀ x ∈ ss, x < 2 ^ ss.length) (h : Trn ss) (P : Nat) : Sub (boxM ss P) (boxM ss (boxM ss P)) := Sub.iff.mpr fun u hu => by
  obtain ⟨h1, h2⟩ := boxM_test.mp hu
  refine boxM_test.mpr ⟨h1, Sub.iff.mpr fun v hv => ?_⟩
  have hvn := lt_bit (sA_lt hlt u) hv
  exact boxM_test.mpr ⟨hvn, (h u v h1 hvn hv).trans h2⟩
theorem f_ref {u v w : Nat} (hu : u < ss.length) (h1 : (sA ss u).testBit v = true) (h2 : (sA ss v).testBit w = true) (h3 : (sA ss u).testBit w = false) : ¬ Sub (boxM ss (sA ss u)) (boxM ss (boxM ss (sA ss u))) := fun z => by
  have a := Sub.iff.mp z u (boxM_test.mpr ⟨hu, Sub.refl _⟩)
  have b := Sub.iff.mp (boxM_test.mp a).2 v h1
  have c := Sub.iff.mp (boxM_test.mp b).2 w h2
  rw [h3] at c
  cases c
theorem l_all (hlt : ∀ x ∈ ss, x < 2 ^ ss.length) (hi : Irr ss) (h : Trn ss) {P : Nat} : Sub (boxM ss (im ss.length (boxM ss P) P)) (boxM ss P) := Sub.iff.mpr fun u hu => by
  obtain ⟨h1, h2⟩ := boxM_test.mp hu
  refine boxM_test.mpr ⟨h1, Sub.iff.mpr fun v hv => ?_⟩
  have key : ∀ (m v : Nat), sA ss v ≤ m → (sA ss u).testBit v = true → P.testBit v = true := by
    intro m
    induction m with
    | zero =>
      intro v hm hv
      have hvn := lt_bit (sA_lt hlt u) hv
      refine (im_yes hvn).mp (Sub.iff.mp h2 v hv) (boxM_test.mpr ⟨hvn, Sub.iff.mpr fun w hw => ?_⟩)
      have : sA ss v = 0 := by omega
      rw [this, Nat.zero_testBit] at hw
      cases hw
    | succ m ih =>
      intro v hm hv
      have hvn := lt_bit (sA_lt hlt u) hv
      refine (im_yes hvn).mp (Sub.iff.mp h2 v hv) (boxM_test.mpr ⟨hvn, Sub.iff.mpr fun w hw => ?_⟩)
      have hwn := lt_bit (sA_lt hlt v) hw
      have sw : Sub (sA ss w) (sA ss v) := h v w hvn hwn hw
      refine ih w ?_ (Sub.iff.mp (h u v h1 hvn hv) w hw)
      have l1 := sw.le
      have ne : sA ss w ≠ sA ss v := fun z => by
        have := hi w hwn
        rw [z, hw] at this
        cases this
      omega
  exact key _ v (Nat.le_refl _) hv
theorem l_ref1 {l : Nat} (hlt : ∀ x ∈ ss, x < 2 ^ ss.length) (hl : l < ss.length) (h : (sA ss l).testBit l = true) : ¬ Sub (boxM ss (im ss.length (boxM ss (every ss.length ^^^ 2 ^ l)) (every ss.length ^^^ 2 ^ l))) (boxM ss (every ss.length ^^^ 2 ^ l)) := fun z => by
  have nb : ¬ (boxM ss (every ss.length ^^^ 2 ^ l)).testBit l = true := fun c => by
    have := Sub.iff.mp (boxM_test.mp c).2 l h
    rw [minus_test hl] at this
    simp at this
  refine nb (Sub.iff.mp z l (boxM_test.mpr ⟨hl, Sub.iff.mpr fun i hi => ?_⟩))
  have hin := lt_bit (sA_lt hlt l) hi
  refine (im_yes hin).mpr fun hb => ?_
  rw [minus_test hl, decide_eq_true hin]
  by_cases e : l = i
  · subst e; exact absurd hb nb
  · rw [decide_eq_false e]; rfl
theorem minus2_test {n v w i : Nat} (hv : v < n) (hw : w < n) : (every n ^^^ (2 ^ v ||| 2 ^ w)).testBit i = (decide (i < n) && !(decide (v = i) || decide (w = i))) := by
  rw [Nat.testBit_xor, every_test, Nat.testBit_or, Nat.testBit_two_pow, Nat.testBit_two_pow]
  by_cases e : v = i
  · subst e; rw [decide_eq_true hv]; simp
  · by_cases e2 : w = i
    · subst e2; rw [decide_eq_true hw]; simp
    · rw [decide_eq_false e, decide_eq_false e2]; simp
theorem l_ref2 {u v w : Nat} (hlt : ∀ x ∈ ss, x < 2 ^ ss.length) (hu : u < ss.length) (h1 : (sA ss u).testBit v = true) (h2 : (sA ss v).testBit w = true) (h3 : (sA ss u).testBit w = false) :
    ¬ Sub (boxM ss (im ss.length (boxM ss (every ss.length ^^^ (2 ^ v ||| 2 ^ w))) (every ss.length ^^^ (2 ^ v ||| 2 ^ w)))) (boxM ss (every ss.length ^^^ (2 ^ v ||| 2 ^ w))) := fun z => by
  have hv := lt_bit (sA_lt hlt u) h1
  have hw := lt_bit (sA_lt hlt v) h2
  have nb : ∀ x y, (x = v ∨ x = w) → (sA ss y).testBit x = true → ¬ (boxM ss (every ss.length ^^^ (2 ^ v ||| 2 ^ w))).testBit y = true := fun x y hx hy c => by
    have := Sub.iff.mp (boxM_test.mp c).2 x hy
    rw [minus2_test hv hw] at this
    rcases hx with rfl | rfl <;> simp at this
  refine nb v u (.inl rfl) h1 (Sub.iff.mp z u (boxM_test.mpr ⟨hu, Sub.iff.mpr fun i hi => ?_⟩))
  have hin := lt_bit (sA_lt hlt u) hi
  refine (im_yes hin).mpr fun hb => ?_
  rw [minus2_test hv hw, decide_eq_true hin]
  by_cases e : v = i
  · subst e; exact absurd hb (nb w v (.inr rfl) h2)
  · by_cases e2 : w = i
    · subst e2; rw [h3] at hi; cases hi
    · rw [decide_eq_false e, decide_eq_false e2]; rfl
theorem k_all (hlt : ∀ x ∈ ss, x < 2 ^ ss.length) (P Q : Nat) : Sub (boxM ss (im ss.length P Q)) (im ss.length (boxM ss P) (boxM ss Q)) := Sub.iff.mpr fun u hu => by
  obtain ⟨h1, h2⟩ := boxM_test.mp hu
  refine (im_yes h1).mpr fun hb => boxM_test.mpr ⟨h1, Sub.iff.mpr fun v hv => ?_⟩
  have hvn := lt_bit (sA_lt hlt u) hv
  exact (im_yes hvn).mp (Sub.iff.mp h2 v hv) (Sub.iff.mp (boxM_test.mp hb).2 v hv)
/-! ### the refuters -/
def awayL (ss : List Nat) : List Nat := (List.range ss.length).filter fun v => !(sA ss v).testBit v
def gapsF (ss : List Nat) : List (Nat × Nat × Nat) := (List.range ss.length).flatMap fun u => (bitsL ss.length (sA ss u)).flatMap fun v => ((bitsL ss.length (sA ss v)).filter fun w => !(sA ss u).testBit w).map fun w => (u, v, w)
theorem gaps_mem {u v w : Nat} : (u, v, w) ∈ gapsF ss ↔ u < ss.length ∧ v < ss.length ∧ w < ss.length ∧ (sA ss u).testBit v = true ∧ (sA ss v).testBit w = true ∧ (sA ss u).testBit w = false := by
  unfold gapsF
  rw [List.mem_flatMap]
  constructor
  · rintro ⟨a, ha, h⟩
    rw [List.mem_flatMap] at h
    obtain ⟨b, hb, h⟩ := h
    obtain ⟨c, hc, e⟩ := List.mem_map.mp h
    injection e with e1 e2
    injection e2 with e2 e3
    subst e1 e2 e3
    rw [List.mem_filter] at hc
    have h1 := bitsL_mem.mp hb
    have h2 := bitsL_mem.mp hc.1
    exact ⟨List.mem_range.mp ha, h1.1, h2.1, h1.2, h2.2, by simpa using hc.2⟩
  · rintro ⟨h1, h2, h3, h4, h5, h6⟩
    refine ⟨u, List.mem_range.mpr h1, List.mem_flatMap.mpr ⟨v, bitsL_mem.mpr ⟨h2, h4⟩, List.mem_map.mpr ⟨w, List.mem_filter.mpr ⟨bitsL_mem.mpr ⟨h3, h5⟩, by rw [h6]; rfl⟩, rfl⟩⟩⟩
theorem away_nil : awayL ss = [] ↔ Rfx ss := by
  unfold awayL
  rw [List.filter_eq_nil_iff]
  exact ⟨fun h v hv => by simpa using h v (List.mem_range.mpr hv), fun h v hv => by rw [h v (List.mem_range.mp hv)]; decide⟩
theorem loops_nil : loopsL ss = [] ↔ Irr ss := by
  unfold loopsL
  rw [List.filter_eq_nil_iff]
  exact ⟨fun h v hv => by simpa using h v (List.mem_range.mpr hv), fun h v hv => by rw [h v (List.mem_range.mp hv)]; decide⟩
theorem gaps_nil (hlt : ∀ x ∈ ss, x < 2 ^ ss.length) : gapsF ss = [] ↔ Trn ss := by
  constructor
  · intro h u v hu hv huv
    refine Sub.iff.mpr fun w hw => ?_
    cases c : (sA ss u).testBit w with
    | true => rfl
    | false =>
      have : (u, v, w) ∈ gapsF ss := gaps_mem.mpr ⟨hu, hv, lt_bit (sA_lt hlt v) hw, huv, hw, c⟩
      rw [h] at this
      cases this
  · intro h
    cases e : gapsF ss with
    | nil => rfl
    | cons g l =>
      obtain ⟨u, v, w⟩ := g
      have := gaps_mem.mp (by rw [e]; exact List.mem_cons_self)
      obtain ⟨h1, h2, h3, h4, h5, h6⟩ := this
      rw [Sub.iff.mp (h u v h1 h2 h4) w h5] at h6
      cases h6
theorem or_sub' {a b : Nat} : (a ||| b = a) ↔ Sub b a := by
  rw [Nat.or_comm]
  exact or_sub
theorem transB_iff (hlt : ∀ x ∈ ss, x < 2 ^ ss.length) : transB ss = true ↔ Trn ss := by
  unfold transB
  rw [List.all_eq_true]
  constructor
  · intro h u v hu hv huv
    exact or_sub'.mp (of_decide_eq_true (h (u, v) (arcsF_mem.mpr ⟨hu, hv, huv⟩)))
  · rintro h ⟨u, v⟩ ha
    obtain ⟨h1, h2, h3⟩ := arcsF_mem.mp ha
    exact decide_eq_true (or_sub'.mpr (h u v h1 h2 h3))
theorem loops_len : (loopsL ss).length = ss.length ↔ Rfx ss := by
  unfold loopsL
  have e : ss.length = (List.range ss.length).length := by rw [List.length_range]
  conv => lhs; rhs; rw [e]
  rw [List.length_filter_eq_length_iff]
  exact ⟨fun h v hv => h v (List.mem_range.mpr hv), fun h v hv => h v (List.mem_range.mp hv)⟩
/-- what refutes T, 4, Lob -/
def refT (ss : List Nat) : Option Nat := (awayL ss).head?.map fun v => every ss.length ^^^ 2 ^ v
def ref4 (ss : List Nat) : Option Nat := (gapsF ss).head?.map fun g => sA ss g.1
def refL (ss : List Nat) : Option Nat := match (loopsL ss).head? with
  | some l => some (every ss.length ^^^ 2 ^ l)
  | none => (gapsF ss).head?.map fun g => every ss.length ^^^ (2 ^ g.2.1 ||| 2 ^ g.2.2)
end
/-! ### the sheet of the schemes -/
def otherI (i : Nat) : Nat := if i = 0 then 1 else 0
def schN (i : Nat) : List Nd := [.letter i, .letter (otherI i), .box 0, .bin .imp 2 0, .box 2, .bin .imp 2 4, .box 3, .bin .imp 6 2, .bin .imp 0 1, .box 8, .box 1, .bin .imp 2 10, .bin .imp 9 11, .bin .imp 0 2]
def schT (ss : List Nat) (p : Nat) : Nat := im ss.length (boxM ss p) p
def sch4 (ss : List Nat) (p : Nat) : Nat := im ss.length (boxM ss p) (boxM ss (boxM ss p))
def schL (ss : List Nat) (p : Nat) : Nat := im ss.length (boxM ss (schT ss p)) (boxM ss p)
def schK (ss : List Nat) (p q : Nat) : Nat := im ss.length (boxM ss (im ss.length p q)) (im ss.length (boxM ss p) (boxM ss q))
def schP (ss : List Nat) (p : Nat) : Nat := im ss.length p (boxM ss p)
theorem sch_tm (ss : List Nat) (L : Nat → Nat) (i : Nat) : tmF false ss L (schN i) =
    [L i, L (otherI i), boxM ss (L i), schT ss (L i), boxM ss (boxM ss (L i)), sch4 ss (L i), boxM ss (schT ss (L i)), schL ss (L i), im ss.length (L i) (L (otherI i)), boxM ss (im ss.length (L i) (L (otherI i))), boxM ss (L (otherI i)), im ss.length (boxM ss (L i)) (boxM ss (L (otherI i))), schK ss (L i) (L (otherI i)), schP ss (L i)] := rfl
end LL

set_option Elab.async false
set_option linter.all false
set_option maxRecDepth 100000
set_option maxHeartbeats 400000
/-! LShOk: a right sheet has no wrong row -/
namespace LL
open PySem PySem.Spec PyProof.Rows L2
theorem isNum_nat {lo hi : Int} {k : Nat} (h1 : lo ≤ k) (h2 : (k : Int) ≤ hi) : isNum lo hi (.int (k : Nat)) = true := by
  show (decide (lo ≤ (k : Int)) && decide ((k : Int) ≤ hi)) = true
  rw [decide_eq_true h1, decide_eq_true h2]
  rfl
variable [KW]
theorem nodeB_eq {boxed : Bool} {row : Int} {w : Str} {ps : List PyData} : nodeB boxed row (.tuple (.str w :: ps)) = if nItems w = some (ps.length + 1) then (if w = "letter" then ps.all (isNum 0 7) else if (decide (w = "box") && !boxed) = true then false else ps.all (isNum 0 (row - 1))) else false := rfl
theorem nd_nodeB {boxed : Bool} {at_ : Nat} {n : Nd} (h : n.ok boxed at_ = true) : nodeB boxed (at_ : Int) n.data = true := by
  cases n with
  | no => rfl
  | letter i =>
    have h : i ≤ 7 := of_decide_eq_true h
    refine (nodeB_eq (w := "letter") (ps := [.int (i : Nat)])).trans ?_
    rw [if_pos (show nItems "letter" = some ([PyData.int ((i : Nat) : Int)].length + 1) from (show nItems "letter" = some 2 from by decide)), if_pos rfl, List.all_cons, isNum_nat (by omega) (by omega)]
    rfl
  | bin o j k =>
    have h : (decide (j < at_) && decide (k < at_)) = true := h
    rw [Bool.and_eq_true] at h
    have h1 := of_decide_eq_true h.1
    have h2 := of_decide_eq_true h.2
    refine (nodeB_eq (w := o.str) (ps := [.int (j : Nat), .int (k : Nat)])).trans ?_
    rw [if_pos (show nItems o.str = some ([PyData.int ((j : Nat) : Int), .int ((k : Nat) : Int)].length + 1) from (show nItems o.str = some 3 from by cases o <;> decide)), if_neg (op_no o).2.1, decide_eq_false (op_no o).2.2, Bool.false_and, if_neg (by decide), List.all_cons, List.all_cons, isNum_nat (by omega) (by omega), isNum_nat (by omega) (by omega)]
    rfl
  | box j =>
    have h : (boxed && decide (j < at_)) = true := h
    rw [Bool.and_eq_true] at h
    obtain ⟨rfl, h2⟩ := h
    have h2 := of_decide_eq_true h2
    refine (nodeB_eq (w := "box") (ps := [.int (j : Nat)])).trans ?_
    rw [if_pos (show nItems "box" = some ([PyData.int ((j : Nat) : Int)].length + 1) from (show nItems "box" = some 2 from by decide)), if_neg (by decide), if_neg (by decide), List.all_cons, isNum_nat (by omega) (by omega)]
    rfl
theorem wrongF_ok {most : Int} {boxed : Bool} : ∀ (rest pre : List Nd), okSheet boxed (pre ++ rest) → ((pre ++ rest).length : Int) ≤ most → wrongF most boxed (pre.length : Nat) (pre.map Nd.keys) (rest.map Nd.data) = none
  | [], pre, _, _ => by
    rw [List.map_nil]
    unfold wrongF
    rfl
  | n :: rest, pre, ok, hl => by
    rw [List.length_append, List.length_cons] at hl
    rw [List.map_cons]
    unfold wrongF
    have e1 : ((pre.length : Nat) : Int) < most := by omega
    have hn : n.ok boxed pre.length = true := ok.2 pre.length n (by rw [List.getElem?_append_right (Nat.le_refl _), Nat.sub_self]; rfl)
    rw [if_pos e1, if_pos (nd_nodeB hn), Nd.keysD]
    have hm : memK n.keys (pre.map Nd.keys) = false := by
      cases c : memK n.keys (pre.map Nd.keys) with
      | false => rfl
      | true =>
        obtain ⟨m, hm, e⟩ := List.mem_map.mp (memK_iff.mp c)
        have := keys_inj e
        subst this
        have nd := ok.1
        rw [List.nodup_append] at nd
        exact absurd rfl (nd.2.2 m hm m List.mem_cons_self)
    rw [if_neg (by rw [hm]; decide)]
    have := wrongF_ok (most := most) (boxed := boxed) rest (pre ++ [n]) (by rw [List.append_assoc]; exact ok) (by simp; omega)
    rw [List.length_append, List.map_append] at this
    exact this
theorem wrongD_ok {most : Int} {boxed : Bool} {ns : List Nd} (ok : okSheet boxed ns) (hl : (ns.length : Int) ≤ most) : wrongD most boxed (.list (ns.map Nd.data)) = none := wrongF_ok ns [] ok hl
end LL

set_option Elab.async false
set_option linter.all false
set_option maxRecDepth 100000
set_option maxHeartbeats 400000
/-! LRig: iteration over a list or a tuple; dicts of masks; right models -/
namespace LL
open PySem PySem.Spec PyProof.Rows L2
def iSq (K : PySem.W.Frag) (tl : TE) : TI := fun σ H R => iList K tl σ H R ∨ iTup K tl σ H R
theorem pi_sq {X : Cx} {tg l : Expr} {tl : TE} (hl : PE X l tl) : PI X tg l (iSq X.K tl) := ⟨fun pins s σ H R I h => h.elim (fun h => (pi_list hl).run pins s σ H R I h) fun h => (pi_tup hl).run pins s σ H R I h⟩
theorem op_inK {X : Cx} (K : PySem.W.Frag) (hK : X.K = K) : OpR X (compareOp .In) (rIn K false) := by
  subst hK
  exact op_in_seq
section
variable [KW]
/-! ### {i: mask} -/
def LtD (H : Hp) (d : Addr) (f : Nat → Option Nat) : Prop := ∃ kvs : List (Key × V), H d = some (.dK kvs) ∧ kvs.length ≤ 100 ∧ ∀ i : Nat, valV kvs (Sum.inl ((i : Nat) : Int)) = (f i).map fun k => V.int (k : Nat)
theorem LtD.get {H : Hp} {d : Addr} {f : Nat → Option Nat} (x : LtD H d f) (i : Nat) : DGet H d (.int (i : Nat)) ((f i).map fun k => V.int (k : Nat)) := by
  obtain ⟨kvs, hd, _, hv⟩ := x
  have := DGet.k (k := Sum.inl ((i : Nat) : Int)) hd
  rw [hv i] at this
  exact this
theorem LtD.isD {H : Hp} {d : Addr} {f : Nat → Option Nat} (x : LtD H d f) : IsD H d := by
  obtain ⟨kvs, hd, _, _⟩ := x
  exact .inl ⟨kvs, .inl hd⟩
theorem LtD.adv {M : List Addr} {H H' : Hp} {d : Addr} {f : Nat → Option Nat} (x : LtD H d f) (a : Adv M H H') (h : d ∉ M) : LtD H' d f := by
  obtain ⟨kvs, hd, hl, hv⟩ := x
  exact ⟨kvs, a _ _ h hd, hl, hv⟩
theorem LtD.nil {H : Hp} {d : Addr} (h : H d = some (.dK [])) : LtD H d (fun _ => none) := ⟨[], h, by simp, fun i => rfl⟩
end
/-! ### right models -/
def badA (ss : List Nat) (a : Nat × Nat) : Bool := !decide (sA ss a.1 ||| sA ss a.2 = sA ss a.1)
theorem transB_bad (ss : List Nat) : transB ss = decide (((arcsF ss).filter (badA ss)).length = 0) := by
  unfold transB
  rw [Bool.eq_iff_iff, List.all_eq_true, decide_eq_true_eq, List.length_eq_zero_iff, List.filter_eq_nil_iff]
  constructor
  · intro h a ha
    unfold badA
    rw [h a ha]
    decide
  · intro h a ha
    have := h a ha
    unfold badA at this
    simpa using this
def badK (ss : List Nat) (k : Nat) : Bool := !decide (boxM ss k &&& k = k)
theorem sub_swap {a b : Nat} : (b &&& a = a) ↔ Sub a b := by
  rw [Nat.and_comm]
  exact Iff.rfl
theorem keptB_iff {ss : List Nat} {L : Nat → Nat} (hL : ∀ i, L i < 2 ^ ss.length) : keptB ss L = true ↔ ∀ i, i < 8 → Sub (L i) (boxM ss (L i)) := by
  unfold keptB
  rw [List.all_eq_true]
  constructor
  · intro h i hi
    refine Sub.iff.mpr fun v hv => ?_
    have hvn := lt_bit (hL i) hv
    have h1 := List.all_eq_true.mp (h i (List.mem_range.mpr hi)) v (bitsL_mem.mpr ⟨hvn, hv⟩)
    exact boxM_test.mpr ⟨hvn, or_sub.mp (of_decide_eq_true h1)⟩
  · intro h i hi
    refine List.all_eq_true.mpr fun v hv => decide_eq_true (or_sub.mpr ?_)
    exact (boxM_test.mp (Sub.iff.mp (h i (List.mem_range.mp hi)) v (bitsL_mem.mp hv).2)).2
theorem keptB_bad {ss : List Nat} {L : Nat → Nat} (hL : ∀ i, L i < 2 ^ ss.length) : keptB ss L = decide ((((List.range 8).map L).filter (badK ss)).length = 0) := by
  rw [Bool.eq_iff_iff, keptB_iff hL, decide_eq_true_eq, List.length_eq_zero_iff, List.filter_eq_nil_iff]
  constructor
  · intro h k hk
    obtain ⟨i, hi, rfl⟩ := List.mem_map.mp hk
    unfold badK
    rw [decide_eq_true (sub_swap.mpr (h i (List.mem_range.mp hi)))]
    decide
  · intro h i hi
    have := h (L i) (List.mem_map.mpr ⟨i, List.mem_range.mpr hi, rfl⟩)
    unfold badK at this
    have := by simpa using this
    exact sub_swap.mp this
/-! ### truths are masks -/
theorem tmS_lt {b : Bool} {ss : List Nat} {L : Nat → Nat} {f : List Nat} (hL : ∀ i, L i < 2 ^ ss.length) (hf : ∀ x ∈ f, x < 2 ^ ss.length) (n : Nd) : tmS b ss L f n < 2 ^ ss.length := by
  cases n with
  | letter i => exact hL i
  | no => exact Nat.two_pow_pos _
  | box j => exact boxM_lt _ _
  | bin o j k =>
    cases o with
    | and => exact Nat.and_lt_two_pow _ (sA_lt hf k)
    | or => exact Nat.or_lt_two_pow (sA_lt hf j) (sA_lt hf k)
    | imp =>
      show (if b = true then _ else _) < _
      split
      · exact boxM_lt _ _
      · exact im_lt (sA_lt hf j) (sA_lt hf k)
theorem tmF_lt {b : Bool} {ss : List Nat} {L : Nat → Nat} (hL : ∀ i, L i < 2 ^ ss.length) (ns : List Nd) : ∀ x ∈ tmF b ss L ns, x < 2 ^ ss.length := by
  induction ns using rev_ind with
  | h0 => intro x hx; cases hx
  | hs l n ih =>
    intro x hx
    unfold tmF at hx ih
    rw [List.foldl_append] at hx
    rcases List.mem_append.mp hx with h | h
    · exact ih x h
    · rw [List.mem_singleton.mp h]
      exact tmS_lt hL ih n
theorem bits_all {n m : Nat} (h : m < 2 ^ n) : (bitsL n m = List.range n) ↔ m = every n := by
  unfold bitsL
  rw [List.filter_eq_self]
  constructor
  · intro e
    apply Nat.eq_of_testBit_eq
    intro i
    rw [every_test]
    by_cases hi : i < n
    · rw [decide_eq_true hi]; exact e i (List.mem_range.mpr hi)
    · rw [decide_eq_false hi]
      cases c : m.testBit i with
      | false => rfl
      | true => exact absurd (lt_bit h c) hi
  · rintro rfl i hi
    rw [every_test]
    exact decide_eq_true (List.mem_range.mp hi)
end LL

set_option Elab.async false
set_option linter.all false
set_option maxRecDepth 100000
set_option maxHeartbeats 400000
/-! LMdl: what places tell of arcs -/
namespace LL
open PySem PySem.Spec PyProof.Rows L2
section
variable {ss : List Nat}
def okT (ss : List Nat) (p : Nat) : Bool := decide (schT ss p = every ss.length)
def ok4 (ss : List Nat) (p : Nat) : Bool := decide (sch4 ss p = every ss.length)
def okL (ss : List Nat) (p : Nat) : Bool := decide (schL ss p = every ss.length)
theorem schT_iff {p : Nat} (hp : p < 2 ^ ss.length) : okT ss p = true ↔ Sub (boxM ss p) p := by
  unfold okT schT
  rw [decide_eq_true_eq]
  exact im_every (boxM_lt _ _) hp
theorem sch4_iff {p : Nat} : ok4 ss p = true ↔ Sub (boxM ss p) (boxM ss (boxM ss p)) := by
  unfold ok4 sch4
  rw [decide_eq_true_eq]
  exact im_every (boxM_lt _ _) (boxM_lt _ _)
theorem schL_iff {p : Nat} : okL ss p = true ↔ Sub (boxM ss (im ss.length (boxM ss p) p)) (boxM ss p) := by
  unfold okL schL schT
  rw [decide_eq_true_eq]
  exact im_every (boxM_lt _ _) (boxM_lt _ _)
theorem schK_yes (hlt : ∀ x ∈ ss, x < 2 ^ ss.length) (p q : Nat) : schK ss p q = every ss.length := (im_every (boxM_lt _ _) (im_lt (boxM_lt _ _) (boxM_lt _ _))).mpr (k_all hlt p q)
theorem pw_lt {n v : Nat} (h : v < n) : 2 ^ v < 2 ^ n := Nat.pow_lt_pow_right (by decide) h
theorem head_none {α : Type} {l : List α} (h : l.head? = none) : l = [] := by
  cases l with
  | nil => rfl
  | cons a l => cases h
theorem head_mem {α : Type} {l : List α} {a : α} (h : l.head? = some a) : a ∈ l := by
  cases l with
  | nil => cases h
  | cons b l => injection h with h; rw [h]; exact List.mem_cons_self
/-- what the refuter r tells of ok -/
def Tells (ss : List Nat) (r : Option Nat) (ok : Nat → Bool) : Prop := (r = none → ∀ p, p < 2 ^ ss.length → ok p = true) ∧ ∀ p, r = some p → p < 2 ^ ss.length ∧ ok p = false
theorem not_ok {b : Bool} {P : Prop} (h : b = true ↔ P) (n : ¬ P) : b = false := by
  cases b with
  | false => rfl
  | true => exact absurd (h.mp rfl) n
theorem tellsT (hlt : ∀ x ∈ ss, x < 2 ^ ss.length) : Tells ss (refT ss) (okT ss) := by
  unfold refT
  constructor
  · intro h p hp
    rw [Option.map_eq_none_iff] at h
    exact (schT_iff hp).mpr (t_all (away_nil.mp (head_none h)) p)
  · intro p h
    obtain ⟨v, hv, rfl⟩ := Option.map_eq_some_iff.mp h
    have hm := List.mem_filter.mp (head_mem hv)
    have hvn := List.mem_range.mp hm.1
    have h1 : every ss.length ^^^ 2 ^ v < 2 ^ ss.length := xor_lt (pw_lt hvn)
    exact ⟨h1, not_ok (schT_iff h1) (t_ref hlt hvn (by simpa using hm.2))⟩
theorem tells4 (hlt : ∀ x ∈ ss, x < 2 ^ ss.length) : Tells ss (ref4 ss) (ok4 ss) := by
  unfold ref4
  constructor
  · intro h p hp
    rw [Option.map_eq_none_iff] at h
    exact sch4_iff.mpr (f_all hlt ((gaps_nil hlt).mp (head_none h)) p)
  · intro p h
    obtain ⟨⟨u, v, w⟩, hv, rfl⟩ := Option.map_eq_some_iff.mp h
    obtain ⟨h1, h2, h3, h4, h5, h6⟩ := gaps_mem.mp (head_mem hv)
    exact ⟨sA_lt hlt u, not_ok sch4_iff (f_ref h1 h4 h5 h6)⟩
theorem tellsL (hlt : ∀ x ∈ ss, x < 2 ^ ss.length) : Tells ss (refL ss) (okL ss) := by
  unfold refL
  constructor
  · intro h p hp
    cases e : (loopsL ss).head? with
    | some l => rw [e] at h; cases h
    | none =>
      rw [e] at h
      have h : Option.map (fun g : Nat × Nat × Nat => every ss.length ^^^ (2 ^ g.2.1 ||| 2 ^ g.2.2)) (gapsF ss).head? = none := h
      rw [Option.map_eq_none_iff] at h
      exact schL_iff.mpr (l_all hlt (loops_nil.mp (head_none e)) ((gaps_nil hlt).mp (head_none h)))
  · intro p h
    cases e : (loopsL ss).head? with
    | some l =>
      rw [e] at h
      have h : some (every ss.length ^^^ 2 ^ l) = some p := h
      injection h with h
      subst h
      have hm := List.mem_filter.mp (head_mem e)
      have hvn := List.mem_range.mp hm.1
      exact ⟨xor_lt (pw_lt hvn), not_ok schL_iff (l_ref1 hlt hvn hm.2)⟩
    | none =>
      rw [e] at h
      have h : Option.map (fun g : Nat × Nat × Nat => every ss.length ^^^ (2 ^ g.2.1 ||| 2 ^ g.2.2)) (gapsF ss).head? = some p := h
      obtain ⟨⟨u, v, w⟩, hv, rfl⟩ := Option.map_eq_some_iff.mp h
      obtain ⟨h1, h2, h3, h4, h5, h6⟩ := gaps_mem.mp (head_mem hv)
      exact ⟨xor_lt (Nat.or_lt_two_pow (pw_lt h2) (pw_lt h3)), not_ok schL_iff (l_ref2 hlt h1 h4 h5 h6)⟩
theorem Tells.all {r : Option Nat} {ok : Nat → Bool} (h : Tells ss r ok) {places : List Nat} (h1 : ∀ p ∈ places, p < 2 ^ ss.length) (h2 : ∀ p, r = some p → p ∈ places) : places.all ok = r.isNone := by
  cases r with
  | none => exact List.all_eq_true.mpr fun p hp => h.1 rfl p (h1 p hp)
  | some p => exact List.all_eq_false.mpr ⟨p, h2 p rfl, by rw [(h.2 p rfl).2]; decide⟩
/-- the places: below, and all refuters among them -/
structure Plc (ss places : List Nat) : Prop where
  lt : ∀ p ∈ places, p < 2 ^ ss.length
  t : ∀ p, refT ss = some p → p ∈ places
  f : ∀ p, ref4 ss = some p → p ∈ places
  l : ∀ p, refL ss = some p → p ∈ places
theorem Plc.all_ (hlt : ∀ x ∈ ss, x < 2 ^ ss.length) : Plc ss (List.range (2 ^ ss.length)) :=
  ⟨fun p hp => List.mem_range.mp hp, fun p h => List.mem_range.mpr ((tellsT hlt).2 p h).1, fun p h => List.mem_range.mpr ((tells4 hlt).2 p h).1, fun p h => List.mem_range.mpr ((tellsL hlt).2 p h).1⟩
def refsL (ss : List Nat) : List Nat := [refT ss, ref4 ss, refL ss].filterMap id
theorem refs_mem {ss : List Nat} {p : Nat} : p ∈ refsL ss ↔ refT ss = some p ∨ ref4 ss = some p ∨ refL ss = some p := by
  unfold refsL
  rw [List.mem_filterMap]
  simp [eq_comm]
theorem Plc.refs (hlt : ∀ x ∈ ss, x < 2 ^ ss.length) {more : List Nat} (hm : ∀ p ∈ more, p < 2 ^ ss.length) : Plc ss (refsL ss ++ more) := by
  refine ⟨fun p hp => ?_, fun p h => ?_, fun p h => ?_, fun p h => ?_⟩
  · rcases List.mem_append.mp hp with h | h
    · rcases refs_mem.mp h with h | h | h
      · exact ((tellsT hlt).2 p h).1
      · exact ((tells4 hlt).2 p h).1
      · exact ((tellsL hlt).2 p h).1
    · exact hm p h
  · exact List.mem_append_left _ (refs_mem.mpr (.inl h))
  · exact List.mem_append_left _ (refs_mem.mpr (.inr (.inl h)))
  · exact List.mem_append_left _ (refs_mem.mpr (.inr (.inr h)))
theorem refT_iff : (refT ss).isNone = true ↔ Rfx ss := by
  unfold refT
  rw [Option.isNone_map, Option.isNone_iff_eq_none]
  exact ⟨fun h => away_nil.mp (head_none h), fun h => by rw [away_nil.mpr h]; rfl⟩
theorem ref4_iff (hlt : ∀ x ∈ ss, x < 2 ^ ss.length) : (ref4 ss).isNone = true ↔ Trn ss := by
  unfold ref4
  rw [Option.isNone_map, Option.isNone_iff_eq_none]
  exact ⟨fun h => (gaps_nil hlt).mp (head_none h), fun h => by rw [(gaps_nil hlt).mpr h]; rfl⟩
theorem refL_iff (hlt : ∀ x ∈ ss, x < 2 ^ ss.length) : (refL ss).isNone = true ↔ Irr ss ∧ Trn ss := by
  unfold refL
  cases e : loopsL ss with
  | nil =>
    show (Option.map _ (gapsF ss).head?).isNone = true ↔ _
    rw [Option.isNone_map, Option.isNone_iff_eq_none]
    have hi := loops_nil.mp e
    exact ⟨fun h => ⟨hi, (gaps_nil hlt).mp (head_none h)⟩, fun h => by rw [(gaps_nil hlt).mpr h.2]; rfl⟩
  | cons a l =>
    constructor
    · intro h; cases h
    · intro h
      have := loops_nil.mpr h.1
      rw [e] at this
      cases this
theorem prop_s4 (hlt : ∀ x ∈ ss, x < 2 ^ ss.length) : propB "s4" ss = ((refT ss).isNone && (ref4 ss).isNone) := by
  unfold propB
  rw [if_neg (by decide), if_neg (by decide), if_neg (by decide), Bool.eq_iff_iff, Bool.and_eq_true, Bool.and_eq_true, decide_eq_true_eq, loops_len, transB_iff hlt, refT_iff, ref4_iff hlt]
theorem prop_glL (hlt : ∀ x ∈ ss, x < 2 ^ ss.length) : propB "gl" ss = (refL ss).isNone := by
  unfold propB
  rw [if_neg (by decide), if_neg (by decide), if_pos rfl, Bool.eq_iff_iff, Bool.and_eq_true, decide_eq_true_eq, transB_iff hlt, refL_iff hlt, ← loops_nil, List.length_eq_zero_iff]
theorem prop_intu {ss : List Nat} : propB "intuit" ss = propB "s4" ss := rfl
end
end LL

set_option Elab.async false
set_option linter.all false
set_option maxRecDepth 100000
set_option maxHeartbeats 400000
/-! LKep: what is kept; excluded middle -/
namespace LL
open PySem PySem.Spec PyProof.Rows L2
section
variable {b : Bool} {ss : List Nat} {L : Nat → Nat}
theorem tmF_ln (l : List Nd) : (tmF b ss L l).length = l.length := by
  induction l using rev_ind with
  | h0 => rfl
  | hs l n ih =>
    unfold tmF at *
    rw [List.foldl_append]
    show ((List.foldl _ [] l) ++ [_]).length = _
    rw [List.length_append, List.length_append, ih]
    rfl
theorem tmF_app (l : List Nd) : ∀ m : List Nd, ∃ t, tmF b ss L (l ++ m) = tmF b ss L l ++ t := fun m => by
  induction m using rev_ind with
  | h0 => exact ⟨[], by rw [List.append_nil, List.append_nil]⟩
  | hs m n ih =>
    obtain ⟨t, e⟩ := ih
    refine ⟨t ++ [tmS b ss L (tmF b ss L (l ++ m)) n], ?_⟩
    rw [← List.append_assoc, ← List.append_assoc, ← e]
    unfold tmF
    rw [List.foldl_append]
    rfl
theorem sA_app {l t : List Nat} {j : Nat} (h : j < l.length) : sA (l ++ t) j = sA l j := by
  unfold sA
  rw [List.getD_eq_getElem?_getD, List.getD_eq_getElem?_getD, List.getElem?_append_left h]
theorem tm_val {ns : List Nd} {r : Nat} {n : Nd} (h : ns[r]? = some n) : sA (tmF b ss L ns) r = tmS b ss L (tmF b ss L (ns.take r)) n ∧ ∀ j, j < r → sA (tmF b ss L (ns.take r)) j = sA (tmF b ss L ns) j := by
  obtain ⟨hr, e⟩ := List.getElem?_eq_some_iff.mp h
  have ens : ns = (ns.take r ++ [n]) ++ ns.drop (r + 1) := by
    rw [← e, List.append_assoc, List.singleton_append, ← List.drop_eq_getElem_cons hr, List.take_append_drop]
  have et : tmF b ss L (ns.take r ++ [n]) = tmF b ss L (ns.take r) ++ [tmS b ss L (tmF b ss L (ns.take r)) n] := by
    unfold tmF
    rw [List.foldl_append]
    rfl
  have lt : (tmF b ss L (ns.take r)).length = r := by rw [tmF_ln, List.length_take]; omega
  obtain ⟨t, e2⟩ := tmF_app (b := b) (ss := ss) (L := L) (ns.take r ++ [n]) (ns.drop (r + 1))
  rw [← ens, et] at e2
  constructor
  · rw [e2, sA_app (by rw [List.length_append, lt]; simp)]
    unfold sA
    rw [List.getD_eq_getElem?_getD, List.getElem?_append_right (by omega), lt, Nat.sub_self]
    rfl
  · intro j hj
    rw [e2, sA_app (by rw [List.length_append, lt]; simp; omega), sA_app (by omega)]
/-- p or not p -/
def emV (ss : List Nat) (p : Nat) : Nat := p ||| boxM ss (im ss.length p 0)
theorem em_row {ns : List Nd} (ok : okSheet false ns) {m p q z : Nat} (h1 : ns[m]? = some (.bin .or p q)) (h2 : ns[q]? = some (.bin .imp p z)) (h3 : ns[z]? = some .no) : sA (tmF true ss L ns) m = emV ss (sA (tmF true ss L ns) p) := by
  have o1 : (decide (p < m) && decide (q < m)) = true := ok.2 m _ h1
  have o2 : (decide (p < q) && decide (z < q)) = true := ok.2 q _ h2
  rw [Bool.and_eq_true, decide_eq_true_eq, decide_eq_true_eq] at o1 o2
  obtain ⟨v1, w1⟩ := tm_val (b := true) (ss := ss) (L := L) h1
  obtain ⟨v2, w2⟩ := tm_val (b := true) (ss := ss) (L := L) h2
  obtain ⟨v3, w3⟩ := tm_val (b := true) (ss := ss) (L := L) h3
  rw [v1]
  show sA (tmF true ss L (ns.take m)) p ||| sA (tmF true ss L (ns.take m)) q = _
  rw [w1 p o1.1, w1 q o1.2, v2]
  show _ ||| boxM ss (im ss.length (sA (tmF true ss L (ns.take q)) p) (sA (tmF true ss L (ns.take q)) z)) = _
  rw [w2 p o2.1, w2 z o2.2, v3]
  rfl
theorem letter_row {ns : List Nd} {r i : Nat} (h : ns[r]? = some (.letter i)) : sA (tmF b ss L ns) r = L i := (tm_val h).1
/-- what holds goes on to hold -/
def Pers (ss : List Nat) (p : Nat) : Prop := Sub p (boxM ss p)
theorem pers_of {p : Nat} (h : Pers ss p) {v w : Nat} (hv : p.testBit v = true) (hw : (sA ss v).testBit w = true) : p.testBit w = true := Sub.iff.mp (boxM_test.mp (Sub.iff.mp h v hv)).2 w hw
theorem pers_mk {p : Nat} (h : ∀ v w, p.testBit v = true → (sA ss v).testBit w = true → p.testBit w = true) (hp : p < 2 ^ ss.length) : Pers ss p := Sub.iff.mpr fun v hv => boxM_test.mpr ⟨lt_bit hp hv, Sub.iff.mpr fun w hw => h v w hv hw⟩
theorem pers_0 : Pers ss 0 := Sub.iff.mpr fun i hi => by
  rw [Nat.zero_testBit] at hi
  cases hi
theorem pers_sA (hlt : ∀ x ∈ ss, x < 2 ^ ss.length) (t : Trn ss) {f : List Nat} (hf : ∀ x ∈ f, x < 2 ^ ss.length ∧ Pers ss x) (j : Nat) : sA f j < 2 ^ ss.length ∧ Pers ss (sA f j) := by
  unfold sA
  rw [List.getD_eq_getElem?_getD]
  cases e : f[j]? with
  | none => exact ⟨Nat.two_pow_pos _, pers_0⟩
  | some x => exact hf x (List.mem_of_getElem? e)
theorem pers_box (hlt : ∀ x ∈ ss, x < 2 ^ ss.length) (t : Trn ss) (p : Nat) : Pers ss (boxM ss p) := f_all hlt t p
theorem pers_all (hlt : ∀ x ∈ ss, x < 2 ^ ss.length) (t : Trn ss) (hL : ∀ i, L i < 2 ^ ss.length) (hP : ∀ i, i < 8 → Pers ss (L i)) {bx : Bool} (ns : List Nd) (ok : ∀ (j : Nat) (n : Nd), ns[j]? = some n → n.ok bx j = true) : ∀ x ∈ tmF true ss L ns, x < 2 ^ ss.length ∧ Pers ss x := by
  induction ns using rev_ind with
  | h0 => intro x hx; cases hx
  | hs l n ih =>
    have ih := ih fun j n' hj => ok j n' (by rw [List.getElem?_append_left (List.getElem?_eq_some_iff.mp hj).1]; exact hj)
    have hn := ok l.length n (by rw [List.getElem?_append_right (Nat.le_refl _), Nat.sub_self]; rfl)
    intro x hx
    have et : tmF true ss L (l ++ [n]) = tmF true ss L l ++ [tmS true ss L (tmF true ss L l) n] := by
      unfold tmF
      rw [List.foldl_append]
      rfl
    rw [et] at hx
    rcases List.mem_append.mp hx with h | h
    · exact ih x h
    · rw [List.mem_singleton.mp h]
      refine ⟨tmS_lt hL (fun x hx => (ih x hx).1) n, ?_⟩
      have ps := pers_sA hlt t ih
      cases n with
      | letter i =>
        have : i ≤ 7 := of_decide_eq_true hn
        exact hP i (by omega)
      | no => exact pers_0
      | box j => exact pers_box hlt t _
      | bin o j k =>
        cases o with
        | imp => exact pers_box hlt t _
        | and =>
          refine pers_mk (fun v w hv hw => ?_) (Nat.and_lt_two_pow _ (ps k).1)
          have hv : (sA (tmF true ss L l) j &&& sA (tmF true ss L l) k).testBit v = true := hv
          show (sA (tmF true ss L l) j &&& sA (tmF true ss L l) k).testBit w = true
          rw [Nat.testBit_and, Bool.and_eq_true] at hv ⊢
          exact ⟨pers_of (ps j).2 hv.1 hw, pers_of (ps k).2 hv.2 hw⟩
        | or =>
          refine pers_mk (fun v w hv hw => ?_) (Nat.or_lt_two_pow (ps j).1 (ps k).1)
          have hv : (sA (tmF true ss L l) j ||| sA (tmF true ss L l) k).testBit v = true := hv
          show (sA (tmF true ss L l) j ||| sA (tmF true ss L l) k).testBit w = true
          rw [Nat.testBit_or, Bool.or_eq_true] at hv ⊢
          exact hv.imp (fun h => pers_of (ps j).2 h hw) (fun h => pers_of (ps k).2 h hw)
/-- arcs that go both ways let excluded middle hold -/
theorem em_all (hlt : ∀ x ∈ ss, x < 2 ^ ss.length) (sym : ∀ v w, v < ss.length → w < ss.length → (sA ss v).testBit w = true → (sA ss w).testBit v = true) {p : Nat} (hp : p < 2 ^ ss.length) (h : Pers ss p) : emV ss p = every ss.length := by
  unfold emV
  apply Nat.eq_of_testBit_eq
  intro v
  rw [every_test]
  by_cases hv : v < ss.length
  · rw [decide_eq_true hv, Nat.testBit_or]
    cases c : p.testBit v with
    | true => rfl
    | false =>
      rw [Bool.false_or]
      refine boxM_test.mpr ⟨hv, Sub.iff.mpr fun w hw => ?_⟩
      have hwn := lt_bit (sA_lt hlt v) hw
      refine (im_yes hwn).mpr fun hpw => ?_
      have := pers_of h hpw (sym v w hv hwn hw)
      rw [c] at this
      cases this
  · rw [decide_eq_false hv]
    cases c : (p ||| boxM ss (im ss.length p 0)).testBit v with
    | false => rfl
    | true => exact absurd (lt_bit (Nat.or_lt_two_pow hp (boxM_lt _ _)) c) hv
/-- an arc that does not go back refutes it, at what its end sees -/
theorem em_no (hlt : ∀ x ∈ ss, x < 2 ^ ss.length) (r : Rfx ss) {v w : Nat} (hv : v < ss.length) (hw : w < ss.length) (h : (sA ss v).testBit w = true) (n : (sA ss w).testBit v = false) : emV ss (sA ss w) ≠ every ss.length := fun e => by
  have h1 : (emV ss (sA ss w)).testBit v = true := by rw [e, every_test]; exact decide_eq_true hv
  unfold emV at h1
  rw [Nat.testBit_or, n, Bool.false_or] at h1
  have h2 := Sub.iff.mp (boxM_test.mp h1).2 w h
  have := (im_yes hw).mp h2 (r w hw)
  rw [Nat.zero_testBit] at this
  cases this
theorem pers_see (hlt : ∀ x ∈ ss, x < 2 ^ ss.length) (t : Trn ss) (w : Nat) (hw : w < ss.length) : Pers ss (sA ss w) := pers_mk (fun u x hu hx => Sub.iff.mp (t w u hw (lt_bit (sA_lt hlt w) hu) hu) x hx) (sA_lt hlt w)
theorem schP_iff {p : Nat} (hp : p < 2 ^ ss.length) : schP ss p = every ss.length ↔ Pers ss p := im_every hp (boxM_lt _ _)
theorem keptB_all (hL : ∀ i, L i < 2 ^ ss.length) : keptB ss L = (List.range 8).all fun i => decide (schP ss (L i) = every ss.length) := by
  rw [Bool.eq_iff_iff, keptB_iff hL, List.all_eq_true]
  constructor
  · intro h i hi
    exact decide_eq_true ((schP_iff (hL i)).mpr (h i (List.mem_range.mp hi)))
  · intro h i hi
    exact (schP_iff (hL i)).mp (of_decide_eq_true (h i (List.mem_range.mpr hi)))
def waysF (ss : List Nat) : List (Nat × Nat) := (arcsF ss).filter fun a => !(sA ss a.2).testBit a.1
theorem ways_nil (h : waysF ss = []) : ∀ v w, v < ss.length → w < ss.length → (sA ss v).testBit w = true → (sA ss w).testBit v = true := fun v w hv hw hvw => by
  have := List.filter_eq_nil_iff.mp h (v, w) (arcsF_mem.mpr ⟨hv, hw, hvw⟩)
  simpa using this
theorem ways_mem {v w : Nat} (h : (v, w) ∈ waysF ss) : v < ss.length ∧ w < ss.length ∧ (sA ss v).testBit w = true ∧ (sA ss w).testBit v = false := by
  have h := List.mem_filter.mp h
  obtain ⟨h1, h2, h3⟩ := arcsF_mem.mp h.1
  exact ⟨h1, h2, h3, by simpa using h.2⟩
end
end LL

set_option Elab.async false
set_option linter.all false
set_option maxRecDepth 100000
set_option maxHeartbeats 4000000
namespace K10
open PySem PySem.Spec PyProof.Rows L2 LL
def top (i : Nat) : Stmt := PySem.Challenge.pw_provedorshown_k10_whole_arcs_told_by_sch.main.body.getD i (.Pass ⟨0, 0, 0, 0⟩)
abbrev s_is_integer : Stmt := top 6
theorem sc_is_integer : FnScope ["value"] ["value"] (defScope s_is_integer) := ⟨rfl, rfl, rfl, by decide +kernel, rfl, by decide +kernel, by decide +kernel⟩
abbrev s_is_between : Stmt := top 7
theorem sc_is_between : FnScope ["value", "low", "high"] ["value", "low", "high"] (defScope s_is_between) := ⟨rfl, rfl, rfl, by decide +kernel, rfl, by decide +kernel, by decide +kernel⟩
abbrev s_is_tuple_of : Stmt := top 8
theorem sc_is_tuple_of : FnScope ["value", "many"] ["value", "many"] (defScope s_is_tuple_of) := ⟨rfl, rfl, rfl, by decide +kernel, rfl, by decide +kernel, by decide +kernel⟩
abbrev s_are_any_rows : Stmt := top 9
theorem sc_are_any_rows : FnScope ["value", "count", "item"] ["value", "count"] (defScope s_are_any_rows) := ⟨rfl, rfl, rfl, by decide +kernel, rfl, by decide +kernel, by decide +kernel⟩
abbrev s_is_rising : Stmt := top 10
theorem sc_is_rising : FnScope ["values", "k"] ["values"] (defScope s_is_rising) := ⟨rfl, rfl, rfl, by decide +kernel, rfl, by decide +kernel, by decide +kernel⟩
abbrev s_check_logic : Stmt := top 17
theorem sc_check_logic : FnScope ["logic"] ["logic"] (defScope s_check_logic) := ⟨rfl, rfl, rfl, by decide +kernel, rfl, by decide +kernel, by decide +kernel⟩
abbrev s_is_boxed : Stmt := top 18
theorem sc_is_boxed : FnScope ["logic"] ["logic"] (defScope s_is_boxed) := ⟨rfl, rfl, rfl, by decide +kernel, rfl, by decide +kernel, by decide +kernel⟩
abbrev s_is_node : Stmt := top 19
theorem sc_is_node : FnScope ["value", "row", "boxed", "word", "part"] ["value", "row", "boxed"] (defScope s_is_node) := ⟨rfl, rfl, rfl, by decide +kernel, rfl, by decide +kernel, by decide +kernel⟩
abbrev s_wrong_row : Stmt := top 20
theorem sc_wrong_row : FnScope ["value", "most", "boxed", "seen", "row", "node"] ["value", "most", "boxed"] (defScope s_wrong_row) := ⟨rfl, rfl, rfl, by decide +kernel, rfl, by decide +kernel, by decide +kernel⟩
abbrev s_check_rows_of : Stmt := top 21
theorem sc_check_rows_of : FnScope ["sheet", "most", "boxed", "row"] ["sheet", "most", "boxed"] (defScope s_check_rows_of) := ⟨rfl, rfl, rfl, by decide +kernel, rfl, by decide +kernel, by decide +kernel⟩
abbrev s_are_arcs : Stmt := top 25
theorem sc_are_arcs : FnScope ["value", "worlds", "arc"] ["value", "worlds"] (defScope s_are_arcs) := ⟨rfl, rfl, rfl, by decide +kernel, rfl, by decide +kernel, by decide +kernel⟩
abbrev s_are_letters : Stmt := top 26
theorem sc_are_letters : FnScope ["value", "worlds", "held", "v"] ["value", "worlds"] (defScope s_are_letters) := ⟨rfl, rfl, rfl, by decide +kernel, rfl, by decide +kernel, by decide +kernel⟩
abbrev s_masks_of_arcs : Stmt := top 27
theorem sc_masks_of_arcs : FnScope ["worlds", "arcs", "masks", "v", "w"] ["worlds", "arcs"] (defScope s_masks_of_arcs) := ⟨rfl, rfl, rfl, by decide +kernel, rfl, by decide +kernel, by decide +kernel⟩
abbrev s_mask_of : Stmt := top 28
theorem sc_mask_of : FnScope ["rows", "mask", "row"] ["rows"] (defScope s_mask_of) := ⟨rfl, rfl, rfl, by decide +kernel, rfl, by decide +kernel, by decide +kernel⟩
abbrev s_members : Stmt := top 29
theorem sc_members : FnScope ["mask", "many", "k"] ["mask", "many"] (defScope s_members) := ⟨rfl, rfl, rfl, by decide +kernel, rfl, by decide +kernel, by decide +kernel⟩
abbrev s_is_transitive : Stmt := top 30
theorem sc_is_transitive : FnScope ["arcs", "masks", "v", "w"] ["arcs", "masks"] (defScope s_is_transitive) := ⟨rfl, rfl, rfl, by decide +kernel, rfl, by decide +kernel, by decide +kernel⟩
abbrev s_have_property : Stmt := top 31
theorem sc_have_property : FnScope ["logic", "worlds", "arcs", "masks", "loops", "many", "v"] ["logic", "worlds", "arcs"] (defScope s_have_property) := ⟨rfl, rfl, rfl, by decide +kernel, rfl, by decide +kernel, by decide +kernel⟩
abbrev s_are_kept : Stmt := top 32
theorem sc_are_kept : FnScope ["worlds", "arcs", "letters", "masks", "held", "whole", "v"] ["worlds", "arcs", "letters"] (defScope s_are_kept) := ⟨rfl, rfl, rfl, by decide +kernel, rfl, by decide +kernel, by decide +kernel⟩
abbrev s_wrong_word : Stmt := top 33
theorem sc_wrong_word : FnScope ["logic", "value", "worlds", "arcs", "letters"] ["logic", "value"] (defScope s_wrong_word) := ⟨rfl, rfl, rfl, by decide +kernel, rfl, by decide +kernel, by decide +kernel⟩
abbrev s_check_form : Stmt := top 34
theorem sc_check_form : FnScope ["logic", "model", "word"] ["logic", "model"] (defScope s_check_form) := ⟨rfl, rfl, rfl, by decide +kernel, rfl, by decide +kernel, by decide +kernel⟩
abbrev s_check_model : Stmt := top 35
theorem sc_check_model : FnScope ["logic", "model"] ["logic", "model"] (defScope s_check_model) := ⟨rfl, rfl, rfl, by decide +kernel, rfl, by decide +kernel, by decide +kernel⟩
abbrev s_masks_behind : Stmt := top 36
theorem sc_masks_behind : FnScope ["model"] ["model"] (defScope s_masks_behind) := ⟨rfl, rfl, rfl, by decide +kernel, rfl, by decide +kernel, by decide +kernel⟩
abbrev s_letter_masks : Stmt := top 37
theorem sc_letter_masks : FnScope ["model", "held"] ["model"] (defScope s_letter_masks) := ⟨rfl, rfl, rfl, by decide +kernel, rfl, by decide +kernel, by decide +kernel⟩
abbrev s_boxed_mask : Stmt := top 39
theorem sc_boxed_mask : FnScope ["masks", "held", "found", "v", "mask"] ["masks", "held"] (defScope s_boxed_mask) := ⟨rfl, rfl, rfl, by decide +kernel, rfl, by decide +kernel, by decide +kernel⟩
abbrev s_truth_masks : Stmt := top 40
theorem sc_truth_masks : FnScope ["logic", "model", "sheet", "masks", "letters", "every", "found", "node", "word", "held"] ["logic", "model", "sheet"] (defScope s_truth_masks) := ⟨rfl, rfl, rfl, by decide +kernel, rfl, by decide +kernel, by decide +kernel⟩
abbrev s_truths : Stmt := top 41
theorem sc_truths : FnScope ["logic", "model", "sheet", "mask"] ["logic", "model", "sheet"] (defScope s_truths) := ⟨rfl, rfl, rfl, by decide +kernel, rfl, by decide +kernel, by decide +kernel⟩
abbrev s_law_stream : Stmt := top 43
theorem sc_law_stream : FnScope ["script"] ["script"] (defScope s_law_stream) := ⟨rfl, rfl, rfl, by decide +kernel, rfl, by decide +kernel, by decide +kernel⟩
abbrev s_law_next : Stmt := top 44
theorem sc_law_next : FnScope ["stream", "many", "k", "cell", "digit"] ["stream", "many"] (defScope s_law_next) := ⟨rfl, rfl, rfl, by decide +kernel, rfl, by decide +kernel, by decide +kernel⟩
abbrev s_law_pick : Stmt := top 45
theorem sc_law_pick : FnScope ["stream", "rows"] ["stream", "rows"] (defScope s_law_pick) := ⟨rfl, rfl, rfl, by decide +kernel, rfl, by decide +kernel, by decide +kernel⟩
abbrev s_law_from : Stmt := top 46
theorem sc_law_from : FnScope ["stream", "low", "high"] ["stream", "low", "high"] (defScope s_law_from) := ⟨rfl, rfl, rfl, by decide +kernel, rfl, by decide +kernel, by decide +kernel⟩
abbrev s_law_some : Stmt := top 47
theorem sc_law_some : FnScope ["stream", "rows", "share", "row"] ["stream", "rows", "share"] (defScope s_law_some) := ⟨rfl, rfl, rfl, by decide +kernel, rfl, by decide +kernel, by decide +kernel⟩
abbrev s_law_shuffled : Stmt := top 48
theorem sc_law_shuffled : FnScope ["stream", "rows", "left", "found", "turn"] ["stream", "rows"] (defScope s_law_shuffled) := ⟨rfl, rfl, rfl, by decide +kernel, rfl, by decide +kernel, by decide +kernel⟩
abbrev s_law_same : Stmt := top 49
theorem sc_law_same : FnScope ["actual", "due", "left", "turn", "one", "other", "at", "key"] ["actual", "due"] (defScope s_law_same) := ⟨rfl, rfl, rfl, by decide +kernel, rfl, by decide +kernel, by decide +kernel⟩
abbrev s_law_row : Stmt := top 50
theorem sc_law_row : FnScope ["book", "node"] ["book", "node"] (defScope s_law_row) := ⟨rfl, rfl, rfl, by decide +kernel, rfl, by decide +kernel, by decide +kernel⟩
abbrev s_law_not : Stmt := top 51
theorem sc_law_not : FnScope ["book", "row"] ["book", "row"] (defScope s_law_not) := ⟨rfl, rfl, rfl, by decide +kernel, rfl, by decide +kernel, by decide +kernel⟩
abbrev s_law_leaf : Stmt := top 52
theorem sc_law_leaf : FnScope ["stream", "book", "letters"] ["stream", "book", "letters"] (defScope s_law_leaf) := ⟨rfl, rfl, rfl, by decide +kernel, rfl, by decide +kernel, by decide +kernel⟩
abbrev s_law_tree : Stmt := top 53
theorem sc_law_tree : FnScope ["stream", "book", "letters", "many", "boxed", "first", "j", "k"] ["stream", "book", "letters", "many", "boxed"] (defScope s_law_tree) := ⟨rfl, rfl, rfl, by decide +kernel, rfl, by decide +kernel, by decide +kernel⟩
abbrev s_law_heap : Stmt := top 54
theorem sc_law_heap : FnScope ["stream", "book", "letters", "many", "boxed", "k", "rows", "j", "other", "word"] ["stream", "book", "letters", "many", "boxed"] (defScope s_law_heap) := ⟨rfl, rfl, rfl, by decide +kernel, rfl, by decide +kernel, by decide +kernel⟩
abbrev s_law_formula : Stmt := top 55
theorem sc_law_formula : FnScope ["stream", "book", "letters", "many", "boxed"] ["stream", "book", "letters", "many", "boxed"] (defScope s_law_formula) := ⟨rfl, rfl, rfl, by decide +kernel, rfl, by decide +kernel, by decide +kernel⟩
abbrev s_law_bits : Stmt := top 56
theorem sc_law_bits : FnScope ["rows", "total", "row"] ["rows"] (defScope s_law_bits) := ⟨rfl, rfl, rfl, by decide +kernel, rfl, by decide +kernel, by decide +kernel⟩
abbrev s_law_listed : Stmt := top 57
theorem sc_law_listed : FnScope ["bits", "many", "at"] ["bits", "many"] (defScope s_law_listed) := ⟨rfl, rfl, rfl, by decide +kernel, rfl, by decide +kernel, by decide +kernel⟩
abbrev s_law_sees : Stmt := top 58
theorem sc_law_sees : FnScope ["model", "found", "v", "w"] ["model"] (defScope s_law_sees) := ⟨rfl, rfl, rfl, by decide +kernel, rfl, by decide +kernel, by decide +kernel⟩
abbrev s_law_boxed : Stmt := top 59
theorem sc_law_boxed : FnScope ["sees", "held", "v"] ["sees", "held"] (defScope s_law_boxed) := ⟨rfl, rfl, rfl, by decide +kernel, rfl, by decide +kernel, by decide +kernel⟩
abbrev s_law_reach : Stmt := top 60
theorem sc_law_reach : FnScope ["sees", "new", "u", "v"] ["sees"] (defScope s_law_reach) := ⟨rfl, rfl, rfl, by decide +kernel, rfl, by decide +kernel, by decide +kernel⟩
abbrev s_law_arcs : Stmt := top 61
theorem sc_law_arcs : FnScope ["sees", "found", "v", "w"] ["sees"] (defScope s_law_arcs) := ⟨rfl, rfl, rfl, by decide +kernel, rfl, by decide +kernel, by decide +kernel⟩
abbrev s_law_is_right_model : Stmt := top 62
theorem sc_law_is_right_model : FnScope ["logic", "model", "worlds", "arcs", "letters", "sees", "loops", "held", "v", "arc", "rows", "bits"] ["logic", "model"] (defScope s_law_is_right_model) := ⟨rfl, rfl, rfl, by decide +kernel, rfl, by decide +kernel, by decide +kernel⟩
abbrev s_law_ways : Stmt := top 63
theorem sc_law_ways : FnScope ["stream", "logic", "worlds", "order", "sees", "at", "v", "share", "to", "turn"] ["stream", "logic", "worlds"] (defScope s_law_ways) := ⟨rfl, rfl, rfl, by decide +kernel, rfl, by decide +kernel, by decide +kernel⟩
abbrev s_law_schemes : Stmt := top 64
theorem sc_law_schemes : FnScope ["i", "book", "p", "q", "box", "reflexive", "four", "lob", "along", "k", "kept"] ["i"] (defScope s_law_schemes) := ⟨rfl, rfl, rfl, by decide +kernel, rfl, by decide +kernel, by decide +kernel⟩
abbrev s_law_arcs_of : Stmt := top 65
theorem sc_law_arcs_of : FnScope ["stream", "worlds", "kind", "share", "v", "sees"] ["stream", "worlds"] (defScope s_law_arcs_of) := ⟨rfl, rfl, rfl, by decide +kernel, rfl, by decide +kernel, by decide +kernel⟩
abbrev s_law_refuters : Stmt := top 66
theorem sc_law_refuters : FnScope ["sees", "worlds", "every", "v", "away", "loops", "gaps", "u", "reflexive", "four", "lob", "w"] ["sees"] (defScope s_law_refuters) := ⟨rfl, rfl, rfl, by decide +kernel, rfl, by decide +kernel, by decide +kernel⟩
abbrev s_law_with : Stmt := top 67
theorem sc_law_with : FnScope ["sees", "letters", "worlds", "i"] ["sees", "letters"] (defScope s_law_with) := ⟨rfl, rfl, rfl, by decide +kernel, rfl, by decide +kernel, by decide +kernel⟩
abbrev s_law_hold : Stmt := top 68
theorem sc_law_hold : FnScope ["logic", "model", "sheet", "rows", "told", "row"] ["logic", "model", "sheet", "rows"] (defScope s_law_hold) := ⟨rfl, rfl, rfl, by decide +kernel, rfl, by decide +kernel, by decide +kernel⟩
abbrev s_law_lets : Stmt := top 69
theorem sc_law_lets : FnScope ["logic", "model", "e"] ["logic", "model"] (defScope s_law_lets) := ⟨rfl, rfl, rfl, by decide +kernel, rfl, by decide +kernel, by decide +kernel⟩
abbrev s_law_is_modal : Stmt := top 70
theorem sc_law_is_modal : FnScope ["stream", "sees", "worlds", "i", "sheet", "rows", "model", "due", "refuters", "bits", "places", "always", "other", "held", "k"] ["stream", "sees"] (defScope s_law_is_modal) := ⟨rfl, rfl, rfl, by decide +kernel, rfl, by decide +kernel, by decide +kernel⟩
abbrev s_law_is_kept : Stmt := top 71
theorem sc_law_is_kept : FnScope ["stream", "sees", "worlds", "letters", "i", "held", "v", "model", "always", "sheet", "rows", "book", "p", "middle", "one", "single", "ways", "w"] ["stream", "sees"] (defScope s_law_is_kept) := ⟨rfl, rfl, rfl, by decide +kernel, rfl, by decide +kernel, by decide +kernel⟩
abbrev s_law : Stmt := top 72
theorem sc_law : FnScope ["script", "stream", "worlds", "sees", "v"] ["script"] (defScope s_law) := ⟨rfl, rfl, rfl, by decide +kernel, rfl, by decide +kernel, by decide +kernel⟩
/-- the built-ins that the text does not name anew -/
structure Txt (K : PySem.W.Frag) (mg : Str → Option Value) : Prop where
  ValueError : mg "ValueError" = none
  abs : mg "abs" = none
  all : mg "all" = none
  bool : mg "bool" = none
  dict : mg "dict" = none
  enumerate : mg "enumerate" = none
  int : mg "int" = none
  isinstance : mg "isinstance" = none
  len : mg "len" = none
  list : mg "list" = none
  min : mg "min" = none
  range : mg "range" = none
  str : mg "str" = none
  tuple : mg "tuple" = none
variable [KW]
/-- the constants of the top -/
structure Con (K : PySem.W.Frag) (mg : Str → Option Value) (w : World) : Prop where
  items : ∃ (a : Addr) (es : Array DictEntry) (n : Nat), mg "ITEMS" = some (.ref a) ∧ KDict K w a es n ∧ ∀ z : Str, ∃ r, PySem.W.nsIn K a z = some r ∧ RelV (match nItems z with | some k => V.int (k : Nat) | none => V.non) (r.getD .none)
  last : ∃ t, mg "LAST_LETTER" = some (.int 7 t)
  most : ∃ t, mg "MOST_PAPER_ROWS" = some (.int 5000 t)
  worlds : ∃ t, mg "MOST_WORLDS" = some (.int 256 t)
  eight : ∃ t, mg "LETTERS" = some (.int 8 t)
  logics : ∃ a, mg "LOGICS" = some (.ref a) ∧ ∀ H, SqT K H a [.str "classical", .str "intuit", .str "k", .str "s4", .str "gl"]
  modal : ∃ a, mg "MODAL" = some (.ref a) ∧ ∀ H, SqT K H a [.str "k", .str "s4", .str "gl"]
structure All (K : PySem.W.Frag) (mg : Str → Option Value) (w : World) where
  T : Txt K mg
  C : Con K mg w
  W : KWOk K w
  is_integer : Df K mg "is_integer" s_is_integer ["value"]
  is_between : Df K mg "is_between" s_is_between ["value", "low", "high"]
  is_tuple_of : Df K mg "is_tuple_of" s_is_tuple_of ["value", "many"]
  are_any_rows : Df K mg "are_any_rows" s_are_any_rows ["value", "count"]
  is_rising : Df K mg "is_rising" s_is_rising ["values"]
  check_logic : Df K mg "check_logic" s_check_logic ["logic"]
  is_boxed : Df K mg "is_boxed" s_is_boxed ["logic"]
  is_node : Df K mg "is_node" s_is_node ["value", "row", "boxed"]
  wrong_row : Df K mg "wrong_row" s_wrong_row ["value", "most", "boxed"]
  check_rows_of : Df K mg "check_rows_of" s_check_rows_of ["sheet", "most", "boxed"]
  are_arcs : Df K mg "are_arcs" s_are_arcs ["value", "worlds"]
  are_letters : Df K mg "are_letters" s_are_letters ["value", "worlds"]
  masks_of_arcs : Df K mg "masks_of_arcs" s_masks_of_arcs ["worlds", "arcs"]
  mask_of : Df K mg "mask_of" s_mask_of ["rows"]
  members : Df K mg "members" s_members ["mask", "many"]
  is_transitive : Df K mg "is_transitive" s_is_transitive ["arcs", "masks"]
  have_property : Df K mg "have_property" s_have_property ["logic", "worlds", "arcs"]
  are_kept : Df K mg "are_kept" s_are_kept ["worlds", "arcs", "letters"]
  wrong_word : Df K mg "wrong_word" s_wrong_word ["logic", "value"]
  check_form : Df K mg "check_form" s_check_form ["logic", "model"]
  check_model : Df K mg "check_model" s_check_model ["logic", "model"]
  masks_behind : Df K mg "masks_behind" s_masks_behind ["model"]
  letter_masks : Df K mg "letter_masks" s_letter_masks ["model"]
  boxed_mask : Df K mg "boxed_mask" s_boxed_mask ["masks", "held"]
  truth_masks : Df K mg "truth_masks" s_truth_masks ["logic", "model", "sheet"]
  truths : Df K mg "truths" s_truths ["logic", "model", "sheet"]
  law_stream : Df K mg "_law_stream" s_law_stream ["script"]
  law_next : Df K mg "_law_next" s_law_next ["stream", "many"]
  law_pick : Df K mg "_law_pick" s_law_pick ["stream", "rows"]
  law_from : Df K mg "_law_from" s_law_from ["stream", "low", "high"]
  law_some : Df K mg "_law_some" s_law_some ["stream", "rows", "share"]
  law_shuffled : Df K mg "_law_shuffled" s_law_shuffled ["stream", "rows"]
  law_same : Df K mg "_law_same" s_law_same ["actual", "due"]
  law_row : Df K mg "_law_row" s_law_row ["book", "node"]
  law_not : Df K mg "_law_not" s_law_not ["book", "row"]
  law_leaf : Df K mg "_law_leaf" s_law_leaf ["stream", "book", "letters"]
  law_tree : Df K mg "_law_tree" s_law_tree ["stream", "book", "letters", "many", "boxed"]
  law_heap : Df K mg "_law_heap" s_law_heap ["stream", "book", "letters", "many", "boxed"]
  law_formula : Df K mg "_law_formula" s_law_formula ["stream", "book", "letters", "many", "boxed"]
  law_bits : Df K mg "_law_bits" s_law_bits ["rows"]
  law_listed : Df K mg "_law_listed" s_law_listed ["bits", "many"]
  law_sees : Df K mg "_law_sees" s_law_sees ["model"]
  law_boxed : Df K mg "_law_boxed" s_law_boxed ["sees", "held"]
  law_reach : Df K mg "_law_reach" s_law_reach ["sees"]
  law_arcs : Df K mg "_law_arcs" s_law_arcs ["sees"]
  law_is_right_model : Df K mg "_law_is_right_model" s_law_is_right_model ["logic", "model"]
  law_ways : Df K mg "_law_ways" s_law_ways ["stream", "logic", "worlds"]
  law_schemes : Df K mg "_law_schemes" s_law_schemes ["i"]
  law_arcs_of : Df K mg "_law_arcs_of" s_law_arcs_of ["stream", "worlds"]
  law_refuters : Df K mg "_law_refuters" s_law_refuters ["sees"]
  law_with : Df K mg "_law_with" s_law_with ["sees", "letters"]
  law_hold : Df K mg "_law_hold" s_law_hold ["logic", "model", "sheet", "rows"]
  law_lets : Df K mg "_law_lets" s_law_lets ["logic", "model"]
  law_is_modal : Df K mg "_law_is_modal" s_law_is_modal ["stream", "sees"]
  law_is_kept : Df K mg "_law_is_kept" s_law_is_kept ["stream", "sees"]
  law : Df K mg "law" s_law ["script"]
end K10

set_option Elab.async false
set_option linter.all false
set_option maxRecDepth 100000
set_option maxHeartbeats 4000000
namespace K10
open PySem PySem.Spec PyProof.Rows L2 LL
open C8 (pss_cut)
section
variable [KW]
variable {P : Program} {w : World} {K : PySem.W.Frag} {mg : Str → Option Value} {base : Heap}
/-! ### _law_stream -/
def spStream (K : PySem.W.Frag) : Sp := fun vs H Q _ => ∃ (a : Addr) (ns : List Int), vs = [.ref a] ∧ SqL K H a (ns.map V.int) ∧ ns.length ≤ 63 ∧
  ∀ s H', H s = none → StrAt [] H' s → Adv [] H H' → Q (.ref s) H'
theorem ok_law_stream (A : All K mg w) : FnOk P w K mg base CX0 1 A.law_stream.f A.law_stream.fd ["script"] (spStream K) := by
  refine A.law_stream.F.ok sc_law_stream (fun vs H Q E h => ?_) (fun cdv Ar outer s H vs Q E hr h => ?_)
  · obtain ⟨a, ns, rfl, _⟩ := h
    rfl
  · obtain ⟨a, ns, rfl, hS, hl, q⟩ := h
    refine ⟨_, pss_one (ps_ret (pe_lst (pa_cons (pe_callTy call_list_of (by rfl) A.T.list (by decide +kernel) (pa_cons (pv 0) pa_nil)) (pa_cons pe_int (pa_cons pe_int pa_nil))))), ?_⟩
    refine ⟨_, rfl, a, _, rfl, .inl hS, fun l nl => ?_⟩
    refine ⟨by show 3 ≤ sizeLine; decide, fun p np => ?_⟩
    have npl : l ≠ p := fun z => by rw [← z, upd_same] at np; cases np
    have np0 : H p = none := by rw [upd_ne npl.symm] at np; exact np
    refine q p _ np0 ⟨l, ns, 0, 0, upd_same, by rw [upd_ne npl, upd_same], Int.le_refl _, Int.le_refl _, by simp⟩ ?_
    exact Adv.trans (Adv.new nl) (Adv.new np)
/-! ### _law_next -/
def spNext : Sp := fun vs H Q _ => ∃ (s : Addr) (many : Int) (M : List Addr), vs = [.ref s, .int many] ∧ StrAt M H s ∧ 0 < many ∧ many < 1073741824 ∧
  ∀ d H', 0 ≤ d → d < many → StrAt M H' s → Adv [s] H H' → Q (.int d) H'
theorem ok_law_next (A : All K mg w) : FnOk P w K mg base CX0 1 A.law_next.f A.law_next.fd ["stream", "many"] spNext := by
  refine A.law_next.F.ok sc_law_next (fun vs H Q E h => ?_) (fun cdv Ar outer s H vs Q E hr h => ?_)
  · obtain ⟨a, ns, M, rfl, _⟩ := h
    rfl
  · obtain ⟨s, many, M, rfl, ⟨l, ns, c, k, hs, hl, hc, hk, hlM⟩, hm, hm2, q⟩ := h
    refine ⟨_, (pss_cut (ps_if (pt_cmpR op_eq (pe_ix ix_list (pv 0) pe_int (fun _ _ => rfl)) pe_int (nomark _))
      (pss_cons (ps_set (i := 2) sc_law_next.nd rfl (Or.inl rfl) (pe_ix ix_list (pv 0) pe_int (fun _ _ => rfl)))
      (pss_cons (ps_set (i := 3) sc_law_next.nd rfl (Or.inl rfl) (pe_op op_add pe_int (pv 2)))
      (pss_cut (ps_if (pt_cmpR op_lt (pv 2) (pe_callB call_len_seq (by rfl) A.T.len PySem.boot_len (pa_cons (pe_ix ix_list (pv 0) pe_int (fun _ _ => rfl)) pa_nil)) (nomark _))
        (pss_one (ps_set (i := 3) sc_law_next.nd rfl (Or.inl rfl) (pe_callB call_abs (by rfl) A.T.abs (by decide +kernel) (pa_cons (pe_ix ix_list (pe_ix ix_list (pv 0) pe_int (fun _ _ => rfl)) (pv 2) (fun _ _ => rfl)) pa_nil))))
        pss_nil)
      (pss_cut (ps_if (pt_cmpR op_lt (pv 3) (pe_op op_pow pe_int pe_int) (nomark _))
        (pss_cons (ps_set (i := 3) sc_law_next.nd rfl (Or.inl rfl) (pe_op op_mod (pe_callTy call_int1 (by rfl) A.T.int (by decide +kernel) (pa_cons (pe_op op_add (pe_op op_add (pe_op op_mul (pv 3) pe_int) (pe_op op_mul (pv 2) pe_int)) pe_int) pa_nil)) pe_int))
        (pss_one (ps_set (i := 3) sc_law_next.nd rfl (Or.inl rfl) (pe_op op_add (pe_op op_mul (pe_op op_mod (pe_callTy call_int1 (by rfl) A.T.int (by decide +kernel) (pa_cons (pe_op op_add (pe_op op_mul (pv 3) pe_int) pe_int) pa_nil)) pe_int) pe_int) (pv 3)))))
        pss_nil)
      (pss_cons (ps_asg (pv 3) (pg_sub (pv 0) pe_int set_list))
      (pss_one (ps_asg (pe_op op_add (pv 2) pe_int) (pg_sub (pv 0) pe_int set_list))))))))
      pss_nil)
      (pss_cons (ps_set (i := 4) sc_law_next.nd rfl (Or.inl rfl) (pe_op op_mod (pe_callTy call_int1 (by rfl) A.T.int (by decide +kernel) (pa_cons (pe_ix ix_list (pv 0) pe_int (fun _ _ => rfl)) pa_nil)) (pv 1)))
      (pss_cons (ps_asg (pe_op op_fdiv (pe_ix ix_list (pv 0) pe_int (fun _ _ => rfl)) (pv 1)) (pg_sub (pv 0) pe_int set_list))
      (pss_one (ps_ret (pv 4)))))), ?_⟩
    have at0 : ∀ c k : Int, atI [V.ref l, .int c, .int k] 0 = some (.ref l) := fun _ _ => atI_nat (j := 0) rfl
    have at1 : ∀ c k : Int, atI [V.ref l, .int c, .int k] 1 = some (.int c) := fun _ _ => atI_nat (j := 1) rfl
    have at2 : ∀ c k : Int, atI [V.ref l, .int c, .int k] 2 = some (.int k) := fun _ _ => atI_nat (j := 2) rfl
    have nls : l ≠ s := ne_of hl hs ne_lst_ints.symm
    refine ⟨fun σ' H' => ∃ (c k : Int) (v2 v3 : Option V), σ' = [some (.ref s), some (.int many), v2, v3, none] ∧ H' s = some (.lst [V.ref l, .int c, .int k]) ∧ 0 ≤ c ∧ 0 ≤ k ∧ Adv [s] H H', ?_, ?_⟩
    · refine ⟨_, rfl, s, _, 1, _, rfl, rfl, SqL.of hs, at1 c k, rfl, _, rfl, ?_⟩
      refine iteB (fun e => ?_) (fun e => ⟨c, k, none, none, rfl, hs, hc, hk, Adv.refl _ _⟩)
      -- a new cell
      refine ⟨_, rfl, s, _, 2, _, rfl, rfl, SqL.of hs, at2 c k, ?_⟩
      refine ⟨_, rfl, 7, k, rfl, rfl, ?_⟩
      refine ⟨fun σ' H' => ∃ c1 : Int, σ' = [some (.ref s), some (.int many), some (.int k), some (.int c1), none] ∧ H = H' ∧ 0 ≤ c1, ?_, ?_⟩
      · refine ⟨_, rfl, _, rfl, s, _, 0, _, rfl, rfl, SqL.of hs, at0 c k, l, _, rfl, .inl (SqL.of hl), k, _, rfl, rfl, _, rfl, ?_⟩
        refine iteB (fun e => ?_) (fun e => ⟨7 + k, rfl, rfl, by omega⟩)
        have hlt : k < ns.length := by simpa using e
        obtain ⟨j, rfl⟩ : ∃ j : Nat, k = (j : Int) := ⟨k.toNat, by omega⟩
        have hj : j < ns.length := by omega
        have hg : (ns.map V.int)[j]? = some (.int ns[j]) := by simp [hj]
        refine ⟨_, rfl, s, _, 0, _, rfl, rfl, SqL.of hs, at0 c _, _, rfl, l, _, (j : Int), _, rfl, rfl, SqL.of hl, atI_nat hg, _, rfl, ?_⟩
        refine ⟨_, rfl, rfl, ?_⟩
        split <;> omega
      · rintro σ' H' ⟨c1, rfl, rfl, hc1⟩
        refine ⟨fun σ' H' => ∃ c1 : Int, σ' = [some (.ref s), some (.int many), some (.int k), some (.int c1), none] ∧ H = H' ∧ 0 ≤ c1, ?_, ?_⟩
        · refine ⟨_, rfl, 10, 18, rfl, rfl, ⟨by decide, by decide, by decide⟩, c1, _, rfl, rfl, _, rfl, ?_⟩
          refine iteB (fun e => ?_) (fun e => ⟨c1, rfl, rfl, hc1⟩)
          refine ⟨_, rfl, c1, 48271, rfl, rfl, .inr ⟨by decide, by decide⟩, _, rfl, k, 69621, rfl, rfl, .inr ⟨by decide, by decide⟩, _, _, rfl, rfl, _, _, rfl, rfl, .inl ⟨_, rfl, _, 2147483647, rfl, rfl, by show (0 : Int) < 2147483647; decide, ?_⟩⟩
          refine ⟨_, rfl, _, 16807, rfl, rfl, .inr ⟨by decide, by decide⟩, _, _, rfl, rfl, .inl ⟨_, rfl, _, 2147483647, rfl, rfl, by show (0 : Int) < 2147483647; decide, ?_⟩⟩
          refine ⟨_, _, rfl, rfl, .inr ⟨by decide, by decide⟩, _, rfl, _, _, rfl, rfl, ?_⟩
          refine ⟨_, rfl, rfl, ?_⟩
          omega
        · rintro σ' H' ⟨c2, rfl, rfl, hc2⟩
          refine ⟨_, rfl, _, rfl, s, _, 1, 1, rfl, rfl, hs, rfl, ?_⟩
          refine ⟨_, rfl, k, 1, rfl, rfl, _, rfl, s, _, 2, 2, rfl, rfl, upd_same, rfl, ?_⟩
          refine ⟨c2, k + 1, _, _, rfl, ?_, hc2, by omega, ?_⟩
          · rw [upd_same]
            rfl
          · exact ((Adv.refl _ _).setT (by simp)).setT (by simp)
    · rintro σ' H1 ⟨c, k, v2, v3, rfl, h1, hc, hk, a⟩
      refine ⟨_, rfl, s, _, 1, _, rfl, rfl, SqL.of h1, at1 c k, .inl ⟨c, rfl, _, rfl, c, many, rfl, rfl, hm, ?_⟩⟩
      refine ⟨_, rfl, s, _, 1, _, rfl, rfl, SqL.of h1, at1 c k, _, rfl, c, many, rfl, rfl, ⟨hm, hm2⟩, ?_⟩
      refine ⟨_, rfl, s, _, 1, 1, rfl, rfl, h1, rfl, ?_⟩
      refine ⟨_, rfl, ?_⟩
      have hl1 : H1 l = some (.lst (ns.map V.int)) := a _ _ (by simpa using nls) hl
      refine q _ _ (Int.emod_nonneg _ (Int.ne_of_gt hm)) (Int.emod_lt_of_pos _ hm) ⟨l, ns, c / many, k, upd_same, by rw [upd_ne nls]; exact hl1, Int.ediv_nonneg hc (Int.le_of_lt hm), hk, hlM⟩ ?_
      exact a.setT (by simp)
/-! ### _law_pick: out of a list, out of a tuple -/
def spPick : Sp := fun vs H Q _ => ∃ (s r : Addr) (xs : List V) (M : List Addr), vs = [.ref s, .ref r] ∧ StrAt M H s ∧ (H r = some (.lst xs) ∨ H r = some (.tup xs)) ∧ r ≠ s ∧ xs ≠ [] ∧ xs.length < 1073741824 ∧
  ∀ x H', x ∈ xs → StrAt M H' s → Adv [s] H H' → Q x H'
theorem ok_law_pick (A : All K mg w) : FnOk P w K mg base CX0 2 A.law_pick.f A.law_pick.fd ["stream", "rows"] spPick := by
  refine A.law_pick.F.ok sc_law_pick (fun vs H Q E h => ?_) (fun cdv Ar outer s H vs Q E hr h => ?_)
  · obtain ⟨s, r, xs, M, rfl, _⟩ := h
    rfl
  · obtain ⟨s, r, xs, M, rfl, hs, hx, nrs, hne, hl, q⟩ := h
    refine ⟨_, pss_one (ps_ret (pe_ix (ix_or ix_list ix_tup) (pv 1) (pe_call (ok_law_next A) (hr.mono (by decide)) rfl A.law_next.m A.law_next.F.kp A.law_next.b .nil pass0 (pa_cons (pv 0) (pa_cons (pe_callB call_len_seq (by rfl) A.T.len PySem.boot_len (pa_cons (pv 1) pa_nil)) pa_nil))) (fun _ _ => rfl))), ?_⟩
    have hpos : 0 < xs.length := List.length_pos_iff.mpr hne
    refine ⟨_, rfl, _, rfl, _, rfl, r, xs, rfl, ?_, s, _, M, rfl, hs, by omega, by omega, fun d H' h0 h1 hs' a => ?_⟩
    · rcases hx with h | h
      · exact .inl (SqL.of h)
      · exact .inr (SqT.of h)
    · obtain ⟨j, rfl⟩ : ∃ j : Nat, d = (j : Int) := ⟨d.toNat, by omega⟩
      have hj : j < xs.length := by omega
      have hg : xs[j]? = some xs[j] := List.getElem?_eq_getElem hj
      have nm : r ∉ [s] := by simpa using nrs
      rcases hx with h | h
      · exact .inl ⟨r, xs, j, xs[j], rfl, rfl, SqL.of (a _ _ nm h), atI_nat hg, q _ _ (List.getElem_mem hj) hs' a⟩
      · exact .inr ⟨r, xs, j, xs[j], rfl, rfl, SqT.of (a _ _ nm h), atI_nat hg, q _ _ (List.getElem_mem hj) hs' a⟩
/-! ### _law_from -/
def spFrom : Sp := fun vs H Q _ => ∃ (s : Addr) (lo hi : Int) (M : List Addr), vs = [.ref s, .int lo, .int hi] ∧ StrAt M H s ∧ lo ≤ hi ∧ hi - lo < 1073741823 ∧
  ∀ d H', lo ≤ d → d ≤ hi → StrAt M H' s → Adv [s] H H' → Q (.int d) H'
theorem ok_law_from (A : All K mg w) : FnOk P w K mg base CX0 2 A.law_from.f A.law_from.fd ["stream", "low", "high"] spFrom := by
  refine A.law_from.F.ok sc_law_from (fun vs H Q E h => ?_) (fun cdv Ar outer s H vs Q E hr h => ?_)
  · obtain ⟨s, lo, hi, M, rfl, _⟩ := h
    rfl
  · obtain ⟨s, lo, hi, M, rfl, hs, h1, h2, q⟩ := h
    refine ⟨_, pss_one (ps_ret (pe_op op_add (pv 1) (pe_call (ok_law_next A) (hr.mono (by decide)) rfl A.law_next.m A.law_next.F.kp A.law_next.b .nil pass0 (pa_cons (pv 0) (pa_cons (pe_op op_add (pe_op op_sub (pv 2) (pv 1)) pe_int) pa_nil))))), ?_⟩
    refine ⟨_, rfl, _, rfl, _, rfl, _, rfl, hi, lo, rfl, rfl, _, _, rfl, rfl, s, _, M, rfl, hs, by omega, by omega, fun d H' h0 h1 hs' a => ?_⟩
    exact ⟨lo, d, rfl, rfl, q _ _ (by omega) (by omega) hs' a⟩
end
end K10

set_option Elab.async false
set_option linter.all false
set_option maxRecDepth 100000
set_option maxHeartbeats 4000000
namespace K10
open PySem PySem.Spec PyProof.Rows L2 LL
open C8 (pss_cut)
section
variable [KW]
variable {P : Program} {w : World} {K : PySem.W.Frag} {mg : Str → Option Value} {base : Heap}
/-! ### is_integer, is_between -/
def spIsInteger : Sp := fun vs H Q _ => ∃ (v : V) (d : PyData), vs = [v] ∧ Is [] H d v ∧ Q (.bl (kitD d "int" && !kitD d "bool")) H
theorem ok_is_integer (A : All K mg w) : FnOk P w K mg base CX0 1 A.is_integer.f A.is_integer.fd ["value"] spIsInteger := by
  refine A.is_integer.F.ok sc_is_integer (fun vs H Q E h => ?_) (fun cdv Ar outer s H vs Q E hr h => ?_)
  · obtain ⟨v, d, rfl, _⟩ := h
    rfl
  · obtain ⟨v, d, rfl, hv, q⟩ := h
    refine ⟨_, (pss_one (ps_ret (pe_and (pe_callB call_isi (by rfl) A.T.isinstance (by decide +kernel) (pa_cons (pv 0) (pa_cons (pe_bltn (v := .ty "int") (by rfl) A.T.int (by decide +kernel) rfl) pa_nil))) (pe_one (pe_not (pe_callB call_isi (by rfl) A.T.isinstance (by decide +kernel) (pa_cons (pv 0) (pa_cons (pe_bltn (v := .ty "bool") (by rfl) A.T.bool (by decide +kernel) rfl) pa_nil)))))))), ?_⟩
    refine ⟨_, rfl, _, _, _, _, _, rfl, .ty _, hv.ty A.W, k_int d, _, rfl, iteB (fun e => ?_) (fun e => ?_)⟩
    · refine ⟨_, rfl, _, _, _, _, _, rfl, .ty _, hv.ty A.W, k_bool d, _, rfl, ?_⟩
      rw [e, Bool.true_and] at q
      exact q
    · rw [e, Bool.false_and] at q
      exact q
theorem isNum_of (d : PyData) (lo hi : Int) : (if (kitD d "int" && !kitD d "bool") = true then isNum lo hi d else false) = isNum lo hi d := by
  cases d <;> simp [kitD, isNum, tyN]
def spIsBetween : Sp := fun vs H Q _ => ∃ (v : V) (d : PyData) (lo hi : Int), vs = [v, .int lo, .int hi] ∧ Is [] H d v ∧ Q (.bl (isNum lo hi d)) H
theorem ok_is_between (A : All K mg w) : FnOk P w K mg base CX0 2 A.is_between.f A.is_between.fd ["value", "low", "high"] spIsBetween := by
  refine A.is_between.F.ok sc_is_between (fun vs H Q E h => ?_) (fun cdv Ar outer s H vs Q E hr h => ?_)
  · obtain ⟨v, d, lo, hi, rfl, _⟩ := h
    rfl
  · obtain ⟨v, d, lo, hi, rfl, hv, q⟩ := h
    refine ⟨_, (pss_one (ps_ret (pe_and (pe_call (ok_is_integer A) (hr.mono (by decide)) rfl A.is_integer.m A.is_integer.F.kp A.is_integer.b .nil pass0 (pa_cons (pv 0) pa_nil)) (pe_one (pe_chain op_le op_le (pv 1) (pv 0) (pv 2)))))), ?_⟩
    rw [← isNum_of] at q
    refine ⟨_, rfl, v, d, rfl, hv, _, rfl, iteB (fun e => ?_) (fun e => ?_)⟩
    · rw [if_pos e] at q
      cases d with
      | int i =>
        cases hv.intE
        refine ⟨_, rfl, _, rfl, lo, i, rfl, rfl, _, rfl, iteB (fun e1 => ?_) (fun e1 => ?_)⟩
        · refine ⟨_, rfl, i, hi, rfl, rfl, ?_⟩
          have q' : Q (.bl (decide (lo ≤ i) && decide (i ≤ hi))) H := q
          rw [e1, Bool.true_and] at q'
          exact q'
        · have q' : Q (.bl (decide (lo ≤ i) && decide (i ≤ hi))) H := q
          rw [e1, Bool.false_and] at q'
          exact q'
      | _ => simp [kitD, tyN] at e
    · rw [if_neg (by rw [e]; decide)] at q
      exact q
/-! ### _law_number -/
/-! ### is_boxed, _law_is_boxed, check_logic of a right logic -/
def logicB (x : Str) : Bool := x = "k" || x = "s4" || x = "gl"
def logicOk (x : Str) : Bool := x = "classical" || x = "intuit" || x = "k" || x = "s4" || x = "gl"
theorem inV_strs (x : Str) (ws : List Str) : inV (.str x) (ws.map V.str) = ws.any fun y => decide (x = y) := by
  unfold inV
  rw [List.any_map]
  congr 1
  funext y
  show (y == x) = decide (x = y)
  by_cases h : x = y
  · subst h; simp
  · have h2 : ¬ y = x := fun z => h z.symm
    simp [h, h2]
def spIsBoxed : Sp := fun vs H Q _ => ∃ (x : Str), vs = [.str x] ∧ ∀ H', Adv [] H H' → Q (.bl (logicB x)) H'
theorem ok_is_boxed (A : All K mg w) : FnOk P w K mg base CX0 1 A.is_boxed.f A.is_boxed.fd ["logic"] spIsBoxed := by
  refine A.is_boxed.F.ok sc_is_boxed (fun vs H Q E h => ?_) (fun cdv Ar outer s H vs Q E hr h => ?_)
  · obtain ⟨x, rfl, _⟩ := h
    rfl
  · obtain ⟨x, rfl, q⟩ := h
    obtain ⟨a, ma, ha⟩ := A.C.modal
    refine ⟨_, (pss_one (ps_ret (pe_cmpR op_in_seq (pv 0) (pe_glob (v := .ref a) rfl ma rfl) rfl))), ?_⟩
    refine ⟨_, rfl, a, _, rfl, .inr (ha H), rfl, by decide, ?_⟩
    have e : inV (.str x) [.str "k", .str "s4", .str "gl"] = logicB x := (inV_strs x ["k", "s4", "gl"]).trans (by simp [logicB, Bool.or_assoc])
    rw [if_neg Bool.false_ne_true, e]
    exact q H (Adv.refl _ _)
end
end K10

set_option Elab.async false
set_option linter.all false
set_option maxRecDepth 100000
set_option maxHeartbeats 4000000
namespace K10
open PySem PySem.Spec PyProof.Rows L2 LL
open C8 (pss_cut)
theorem cut_from1 (xs : List V) : cutV xs (some 1) none = xs.drop 1 := by
  unfold cutV
  rw [show HT.sIx xs.length 0 (some 1) = min 1 xs.length from HT.sIx_nat xs.length 0 1, HT.sIx_none]
  cases xs with
  | nil => rfl
  | cons x r =>
    have e : min 1 (x :: r).length = 1 := by rw [List.length_cons]; omega
    rw [e]
    simp
theorem all_id (bs : List Bool) (f : PyData → Bool) (ds : List PyData) (h : bs = ds.map f) : bs.all id = ds.all f := by
  rw [h, List.all_map]
  rfl
section
variable [KW]
variable {P : Program} {w : World} {K : PySem.W.Frag} {mg : Str → Option Value} {base : Heap}
def spIsNode : Sp := fun vs H Q _ => ∃ (v : V) (d : PyData) (row : Int) (boxed : Bool), vs = [v, .int row, .bl boxed] ∧ Is [] H d v ∧ ∀ H', Adv [] H H' → Q (.bl (nodeB boxed row d)) H'
theorem ok_is_node (A : All K mg w) : FnOk P w K mg base CX0 3 A.is_node.f A.is_node.fd ["value", "row", "boxed"] spIsNode := by
  refine A.is_node.F.ok sc_is_node (fun vs H Q E h => ?_) (fun cdv Ar outer s H vs Q E hr h => ?_)
  · obtain ⟨v, d, row, boxed, rfl, _⟩ := h
    rfl
  · obtain ⟨v, d, row, boxed, rfl, hv, q⟩ := h
    obtain ⟨tL, mL⟩ := A.C.last
    obtain ⟨ai, es, n, mi, KD, hi⟩ := A.C.items
    refine ⟨_, (pss_cons (ps_if (PW.pt (pw_or (pt_not (pt_val (pe_callB call_isi (by rfl) A.T.isinstance (by decide +kernel) (pa_cons (pv 0) (pa_cons (pe_bltn (v := .ty "tuple") (by rfl) A.T.tuple (by decide +kernel) rfl) pa_nil))))) (pw_or (pt_cmpR op_eq (pe_callB call_len_seq (by rfl) A.T.len PySem.boot_len (pa_cons (pv 0) pa_nil)) pe_int (nomark _)) (pw_or1 (pt_not (pt_val (pe_callB call_isi (by rfl) A.T.isinstance (by decide +kernel) (pa_cons (pe_ix ix_tup (pv 0) pe_int (fun _ _ => rfl)) (pa_cons (pe_bltn (v := .ty "str") (by rfl) A.T.str (by decide +kernel) rfl) pa_nil)))))))))
    (pss_one (ps_ret pe_bl))
    pss_nil)
  (pss_cons (ps_set (i := 3) sc_is_node.nd rfl (Or.inl rfl) (pe_ix ix_tup (pv 0) pe_int (fun _ _ => rfl)))
  (pss_cons (ps_if (pt_cmpR op_ne (pe_kget (pe_glob (v := .ref ai) rfl mi rfl) (pv 3) ⟨rfl, rfl, rfl, rfl⟩) (pe_callB call_len_seq (by rfl) A.T.len PySem.boot_len (pa_cons (pv 0) pa_nil)) (nomark _))
    (pss_one (ps_ret pe_bl))
    pss_nil)
  (pss_cons (ps_if (pt_cmpR op_eq (pv 3) pe_str (nomark _))
    (pss_one (ps_ret (pe_call (ok_is_between A) (hr.mono (by omega)) rfl A.is_between.m A.is_between.F.kp A.is_between.b .nil pass0 (pa_cons (pe_ix ix_tup (pv 0) pe_int (fun _ _ => rfl)) (pa_cons pe_int (pa_cons (pe_glob (v := .int 7) rfl mL ⟨_, rfl⟩) pa_nil))))))
    pss_nil)
  (pss_cons (ps_if (PW.pt (pw_and (pt_cmpR op_eq (pv 3) pe_str (nomark _)) (pw_and1 (pt_not (pt_val (pv 2))))))
    (pss_one (ps_ret pe_bl))
    pss_nil)
  (pss_one (ps_ret (pe_callB (cr_all rfl) (by rfl) A.T.all (by decide +kernel) (pa_cons (pe_lc (own := [("part", 4)]) (g := (gName 4)) rfl sc_is_node.nd (pi_tup (pe_slice sl_tup (pv 0) (po_some pe_int) po_none)) (blkOk_by (own := [("part", 4)]) (N := ["value", "row", "boxed", "word", "part"]) (sc := defScope s_is_node) (by decide +kernel)) (fun _ _ _ _ _ => pg_name (i := 4) sc_is_node.nd rfl (Or.inl rfl)) (fun _ _ _ _ _ => pts_nil) (fun _ _ _ _ _ => (pe_call (ok_is_between A) (hr.mono (by omega)) rfl A.is_between.m A.is_between.F.kp A.is_between.b .nil pass0 (pa_cons (pv 4) (pa_cons pe_int (pa_cons (pe_op op_sub (pv 1) pe_int) pa_nil)))))) pa_nil))))))))), ?_⟩
    have no : ¬ (∃ ds, d = .tuple ds) → kitD d "tuple" = false ∧ nodeB boxed row d = false := fun h => by
      cases d with
      | tuple ds => exact absurd ⟨ds, rfl⟩ h
      | _ => exact ⟨by simp [kitD, tyN], rfl⟩
    refine ⟨_, rfl, _, _, _, _, _, rfl, .ty _, hv.ty A.W, k_tuple d, _, rfl, ?_⟩
    by_cases ht : ∃ ds, d = .tuple ds
    case neg =>
      obtain ⟨e1, e2⟩ := no ht
      refine iteY (by rw [e1]; rfl) (iteY rfl ?_)
      have q' := q H (Adv.refl _ _)
      rw [e2] at q'
      exact q'
    obtain ⟨ds, rfl⟩ := ht
    refine iteN (by simp [kitD, tyN]) ?_
    obtain ⟨a, vs, rfl, htp, hs⟩ := hv.tupE
    refine ⟨_, rfl, a, vs, rfl, .inr (htp.sq A.W), rfl, _, rfl, ?_⟩
    cases ds with
    | nil =>
      have e0 : vs = [] := by unfold IsDs at hs; exact hs
      subst e0
      exact iteY rfl (iteY rfl (q H (Adv.refl _ _)))
    | cons d0 ps =>
      have hlen := hs.len
      have hs' := hs
      unfold IsDs at hs
      obtain ⟨v0, rs, rfl, h0, hps⟩ := hs
      refine iteN (by simp [List.length_cons]; omega) ?_
      refine ⟨_, rfl, a, _, 0, v0, rfl, rfl, htp.sq A.W, atI_nat (j := 0) rfl, _, _, _, _, _, rfl, .ty _, h0.ty A.W, k_str d0, _, rfl, ?_⟩
      by_cases hw : ∃ w, d0 = .str w
      case neg =>
        have e1 : kitD d0 "str" = false := by
          cases d0 with
          | str x => exact absurd ⟨x, rfl⟩ hw
          | _ => simp [kitD, tyN]
        have e2 : nodeB boxed row (.tuple (d0 :: ps)) = false := by
          cases d0 with
          | str x => exact absurd ⟨x, rfl⟩ hw
          | _ => rfl
        refine iteY (by rw [e1]; rfl) ?_
        have q' := q H (Adv.refl _ _)
        rw [e2] at q'
        exact q'
      obtain ⟨wd, rfl⟩ := hw
      cases h0.strE
      refine iteN (by simp [kitD, tyN]) ?_
      -- word = value[0]
      refine ⟨_, rfl, a, _, 0, _, rfl, rfl, htp.sq A.W, atI_nat (j := 0) rfl, ?_⟩
      -- ITEMS.get(word) != len(value)
      obtain ⟨r, er, rr⟩ := hi wd
      refine ⟨ai, es, n, rfl, KD, _, rfl, wd, r, _, rfl, er, rr, _, rfl, a, _, rfl, .inr (htp.sq A.W), ?_, _, rfl, ?_⟩
      · cases nItems wd <;> rfl
      have hl2 : rs.length = ps.length := hps.len
      have hnode : nodeB boxed row (.tuple (.str wd :: ps)) = (if nItems wd = some (ps.length + 1) then (if wd = "letter" then ps.all (isNum 0 7) else if wd = "box" && !boxed then false else ps.all (isNum 0 (row - 1))) else false) := rfl
      rw [hnode] at q
      by_cases hn : nItems wd = some (ps.length + 1)
      case neg =>
        rw [if_neg hn] at q
        refine iteY ?_ (q H (Adv.refl _ _))
        cases en : nItems wd with
        | none => rfl
        | some k =>
          have hk : ¬ k = ps.length + 1 := fun z => hn (by rw [en, z])
          simp [hl2]
          omega
      rw [if_pos hn] at q
      refine iteN (by rw [hn]; simp [hl2]) ?_
      -- word == 'letter'
      refine ⟨_, rfl, rfl, _, rfl, ?_⟩
      by_cases hlet : wd = "letter"
      · subst hlet
        rw [if_pos rfl] at q
        refine iteY (by simp) ?_
        have h2 : ps.length = 1 := by
          have e : nItems "letter" = some 2 := by decide +kernel
          rw [e] at hn
          have := Option.some.inj hn
          omega
        obtain ⟨p, rfl⟩ : ∃ p, ps = [p] := List.length_eq_one_iff.mp h2
        unfold IsDs at hps
        obtain ⟨v1, r1, rfl, h1, hn1⟩ := hps
        refine ⟨_, rfl, a, _, 1, v1, rfl, rfl, htp.sq A.W, atI_nat (j := 1) rfl, v1, p, 0, 7, rfl, h1, ?_⟩
        have q' := q H (Adv.refl _ _)
        simpa using q'
      · rw [if_neg hlet] at q
        refine iteN (by simp [hlet]) ?_
        refine ⟨_, rfl, rfl, _, rfl, ?_⟩
        have go : (wd = "box" && !boxed) = false → tRet (tCB (rAll K) (tCons (tLc (iTup K (tSl (rSlT K) (tVar 0) (tPart (tC (.int 1))) tNoPart)) (gName 4) tYes (tCall spIsBetween [] E0 (tCons (tVar 4) (tCons (tC (.int 0)) (tCons (tOp (rI0 fun i j => .int (i - j)) (tVar 1) (tC (.int 1))) tNil)))) [4]) tNil)) { nx := fun _ H' => Q .non H', rt := Q } [some (.ref a), some (.int row), some (.bl boxed), some (.str wd), none] H := fun hb => by
          rw [if_neg (by rw [hb]; decide)] at q
          refine ⟨_, rfl, 1, rfl, a, _, rfl, htp.sq A.W, ?_, fun p np => ?_⟩
          · intro z
            have z1 := z.1
            rw [show HT.sIx (V.str wd :: rs).length 0 (some 1) = min 1 (V.str wd :: rs).length from HT.sIx_nat _ 0 1, List.length_cons] at z1
            omega
          · rw [cut_from1]
            refine ⟨p, rfl, ⟨_, SqT.of upd_same⟩, fun D nD => ?_⟩
            have aP : Adv [] H (upd H p (.tup rs)) := Adv.new np
            refine lc_mapT (K := K) (a := p) (xs := rs) (fun i => V.bl (isNum 0 (row - 1) (ps.getD i .none))) nD (SqT.of upd_same) ?_ ?_ ?_
            · have : ps.length ≤ 3 := by
                unfold nItems at hn
                repeat' (split at hn)
                all_goals first | (have := Option.some.inj hn; omega) | cases hn
              omega
            · intro i x H' acc R hx aH hD k
              have hip : i < ps.length := by rw [← hl2]; exact (List.getElem?_eq_some_iff.mp hx).1
              obtain ⟨dx, hdx, hisx⟩ := hps.getV hx
              have ed : ps.getD i .none = dx := by rw [List.getD_eq_getElem?_getD, hdx]; rfl
              refine ⟨rfl, x, rfl, _, rfl, row, 1, rfl, rfl, x, dx, 0, row - 1, rfl, (hisx.adv (aP.trans aH)), ?_⟩
              have k' := k H' hD aH
              rw [ed] at k'
              exact k'
            · intro H' aH hD
              refine ⟨D, ps.map (isNum 0 (row - 1)), rfl, .inl (.inl ?_), ?_⟩
              · rw [hD, hl2, range_map_list]
              · have q' := q H' (aP.trans aH)
                rw [all_id _ (isNum 0 (row - 1)) ps rfl]
                exact q'
        by_cases hbx : wd = "box"
        · subst hbx
          refine iteY (by simp) ⟨_, rfl, _, rfl, ?_⟩
          cases boxed with
          | true => exact iteN rfl (go (by simp))
          | false =>
            rw [if_pos (by simp)] at q
            exact iteY rfl (q H (Adv.refl _ _))
        · refine iteN (by simp [hbx]) ?_
          exact go (by simp [hbx])
end
end K10

set_option Elab.async false
set_option linter.all false
set_option maxRecDepth 100000
set_option maxHeartbeats 4000000
namespace K10
open PySem PySem.Spec PyProof.Rows L2 LL
open C8 (pss_cut)
def resV : Option Int → V
  | some i => .int i
  | none => .non
theorem wrongF_at {most : Int} {boxed : Bool} {ds : List PyData} {i : Nat} {d : PyData} {seen : List (List Key)} (h : ds[i]? = some d) :
    wrongF most boxed i seen (ds.drop i) = if (i : Int) < most then (if nodeB boxed i d then (if memK (keysD d) seen = true then some (i : Int) else wrongF most boxed ((i + 1 : Nat) : Int) (seen ++ [keysD d]) (ds.drop (i + 1))) else some (i : Int)) else some (i : Int) := by
  obtain ⟨hi, e⟩ := List.getElem?_eq_some_iff.mp h
  rw [List.drop_eq_getElem_cons hi, e]
  rfl
theorem wrongF_end {most : Int} {boxed : Bool} {ds : List PyData} {seen : List (List Key)} {i : Nat} (h : i = ds.length) : wrongF most boxed i seen (ds.drop i) = none := by
  rw [h, List.drop_length]
  rfl
section
variable [KW]
variable {P : Program} {w : World} {K : PySem.W.Frag} {mg : Str → Option Value} {base : Heap}
def spWrongRow : Sp := fun vs H Q _ => ∃ (v : V) (d : PyData) (most : Int) (boxed : Bool), vs = [v, .int most, .bl boxed] ∧ Is [] H d v ∧ 0 ≤ most ∧ (∀ ds, d = .list ds → ds.length ≤ 1000000) ∧ ∀ H', Adv [] H H' → Q (resV (wrongD most boxed d)) H'
theorem no_list {d : PyData} {most : Int} {boxed : Bool} (h : ¬ ∃ ds, d = .list ds) : kitD d "list" = false ∧ wrongD most boxed d = some (-1) := by
  cases d with
  | list ds => exact absurd ⟨ds, rfl⟩ h
  | _ => exact ⟨by simp [kitD, tyN], rfl⟩
theorem ok_wrong_row (A : All K mg w) : FnOk P w K mg base CX0 4 A.wrong_row.f A.wrong_row.fd ["value", "most", "boxed"] spWrongRow := by
  refine A.wrong_row.F.ok sc_wrong_row (fun vs H Q E h => ?_) (fun cdv Ar outer s H vs Q E hr h => ?_)
  · obtain ⟨v, d, most, boxed, rfl, _⟩ := h
    rfl
  · obtain ⟨v, d, most, boxed, rfl, hv, h0, hz, q⟩ := h
    refine ⟨_, (pss_cons (ps_if (pt_not (pt_val (pe_callB call_isi (by rfl) A.T.isinstance (by decide +kernel) (pa_cons (pv 0) (pa_cons (pe_bltn (v := .ty "list") (by rfl) A.T.list (by decide +kernel) rfl) pa_nil)))))
    (pss_one (ps_ret (pe_un un_neg pe_int)))
    pss_nil)
  (pss_cons (ps_set (i := 3) sc_wrong_row.nd rfl (Or.inl rfl) (pe_dnewX A.W))
  (pss_cons (ps_for PassesOwn.never rfl (pi_enum (by rfl) A.T.enumerate (pa_cons (pv 0) pa_nil)) (pg_tup rfl (pgs_cons (pg_name (i := 4) sc_wrong_row.nd rfl (Or.inl rfl)) (pgs_cons (pg_name (i := 5) sc_wrong_row.nd rfl (Or.inl rfl)) pgs_nil)))
    (pss_cons (ps_if (PW.pt (pw_or (pt_cmpR op_ge (pv 4) (pv 1) (nomark _)) (pw_or (pt_not (pt_val (pe_call (ok_is_node A) (hr.mono (by omega)) rfl A.is_node.m A.is_node.F.kp A.is_node.b .nil pass0 (pa_cons (pv 5) (pa_cons (pv 4) (pa_cons (pv 2) pa_nil)))))) (pw_or1 (pt_cmp (pc_dinX A.W (hu_of hr) (pv 5) (pv 3)))))))
    (pss_one (ps_ret (pv 4)))
    pss_nil)
  (pss_one (ps_dputX A.W (hu_of hr) (pv 3) (pv 5) pe_bl rfl))))
  (pss_one (ps_ret pe_non))))), ?_⟩
    refine ⟨_, rfl, _, _, _, _, _, rfl, .ty _, hv.ty A.W, k_list d, _, rfl, ?_⟩
    by_cases ht : ∃ ds, d = .list ds
    case neg =>
      obtain ⟨e1, e2⟩ := no_list (most := most) (boxed := boxed) ht
      refine iteY (by rw [e1]; rfl) ⟨1, rfl, ?_⟩
      have q' := q H (Adv.refl _ _)
      rw [e2] at q'
      exact q'
    obtain ⟨ds, rfl⟩ := ht
    refine iteN (by simp [kitD, tyN]) ?_
    obtain ⟨a, vs, rfl, na, ha, hs⟩ := hv.lstE
    have hl := hs.len
    have hsz := hz ds rfl
    intro d hd
    refine ⟨_, rfl, a, vs, rfl, SqL.of (by rw [upd_ne (ne_of_none ha hd)]; exact ha), ?_⟩
    refine for_enum (K := K) (a := a) (xs := vs) (fun i σ' H' => ∃ (v4 v5 : Option V) (kvs : List (List Key × V)), σ' = [some (.ref a), some (.int most), some (.bl boxed), some (.ref d), v4, v5] ∧ Adv [] H H' ∧ Tab [d] H' d kvs ∧ kvs.length ≤ i ∧ wrongF most boxed 0 [] ds = wrongF most boxed i (kvs.map (·.1)) (ds.drop i))
      ⟨none, none, [], rfl, Adv.new hd, Tab.new upd_same, Nat.le_refl _, rfl⟩ (fun i σ' H' _ ⟨_, _, _, _, a', _⟩ => a'.same _ _ ha) ?_ ?_
    · rintro i x T σ' H' hx ⟨v4, v5, kvs, rfl, a', hk, hkl, hw⟩ nT
      obtain ⟨dx, hdx, hisx⟩ := hs.getV hx
      rw [wrongF_at hdx] at hw
      have hi : i < ds.length := (List.getElem?_eq_some_iff.mp hdx).1
      refine ⟨T, _, rfl, SqT.of upd_same, rfl, _, _, rfl, _, _, rfl, rfl, ?_⟩
      have aT : Adv [] H (upd H' T (.tup [.int (i : Nat), x])) := a'.trans (Adv.new nT)
      have hkT : Tab [d] (upd H' T (.tup [.int (i : Nat), x])) d kvs := hk.same (Adv.new nT)
      refine ⟨_, rfl, _, rfl, (i : Int), most, rfl, rfl, _, rfl, ?_⟩
      by_cases hm : (i : Int) < most
      case neg =>
        rw [if_neg hm] at hw
        refine iteY (decide_eq_true (by omega)) (iteY rfl ⟨_, rfl, ?_⟩)
        have q' := q _ aT
        rw [show wrongD most boxed (.list ds) = wrongF most boxed 0 [] ds from rfl, hw] at q'
        exact q'
      rw [if_pos hm] at hw
      refine iteN (decide_eq_false (by omega)) ?_
      refine ⟨x, rfl, _, rfl, _, rfl, x, dx, (i : Int), boxed, rfl, hisx.adv aT, fun H3 a3 => ⟨_, rfl, ?_⟩⟩
      cases hn : nodeB boxed i dx with
      | false =>
        rw [if_neg (by rw [hn]; decide)] at hw
        refine iteY rfl (iteY rfl ⟨_, rfl, ?_⟩)
        have q' := q _ (aT.trans a3)
        rw [show wrongD most boxed (.list ds) = wrongF most boxed 0 [] ds from rfl, hw] at q'
        exact q'
      | true =>
        rw [if_pos hn] at hw
        refine iteN rfl ?_
        have hk3 := hkT.same a3
        obtain ⟨b, rfl, hb⟩ := node_keys ((hisx.fresh hd).adv ((aT.trans a3).more (by simp))) hn
        refine ⟨_, rfl, _, rfl, d, _, rfl, hk3.get A.W hb, _, rfl, ?_⟩
        rw [val_mem]
        cases hm2 : memK (keysD dx) (kvs.map (·.1)) with
        | true =>
          rw [if_pos hm2] at hw
          refine iteY rfl ⟨_, rfl, ?_⟩
          have q' := q _ (aT.trans a3)
          rw [show wrongD most boxed (.list ds) = wrongF most boxed 0 [] ds from rfl, hw] at q'
          exact q'
        | false =>
          rw [if_neg (by rw [hm2]; decide)] at hw
          refine iteN rfl ?_
          obtain ⟨o, hg, t2⟩ := hk3.putH A.W (by simp) hb (by rw [sizeLine_eq]; omega) (.bl true)
          refine ⟨_, rfl, _, rfl, d, _, rfl, hg, ?_⟩
          rw [put_new _ _ _ hm2] at t2
          refine ⟨_, _, _, rfl, (aT.trans a3).mut hd, t2, by rw [List.length_append, List.length_singleton]; omega, ?_⟩
          rw [hw, List.map_append]
          rfl
    · rintro σ' H' ⟨v4, v5, kvs, rfl, a', hk, hkl, hw⟩
      rw [wrongF_end hl] at hw
      have q' := q _ a'
      rw [show wrongD most boxed (.list ds) = wrongF most boxed 0 [] ds from rfl, hw] at q'
      exact q'
end
end K10

set_option Elab.async false
set_option linter.all false
set_option maxRecDepth 100000
set_option maxHeartbeats 4000000
namespace K10
open PySem PySem.Spec PyProof.Rows L2 LL
open C8 (pss_cut)
def prD (d : PyData) : PyData := .tuple [d, d]
section
variable [KW]
variable {P : Program} {w : World} {K : PySem.W.Frag} {mg : Str → Option Value} {base : Heap}
def spSame : Sp := fun vs H Q _ => ∃ (v1 v2 : V) (d : PyData), vs = [v1, v2] ∧ Is [] H d v1 ∧ Is [] H d v2 ∧ sz d ≤ 1000000 ∧ ∀ H', Adv [] H H' → Q (.bl true) H'
theorem ok_law_same (A : All K mg w) : FnOk P w K mg base CX0 1 A.law_same.f A.law_same.fd ["actual", "due"] spSame := by
  refine A.law_same.F.ok sc_law_same (fun vs H Q E h => ?_) (fun cdv Ar outer s H vs Q E hr h => ?_)
  · obtain ⟨v1, v2, d, rfl, _⟩ := h
    rfl
  · obtain ⟨v1, v2, d0, rfl, h1, h2, hz, q⟩ := h
    refine ⟨_, (pss_cons (ps_set (i := 2) sc_law_same.nd rfl (Or.inl rfl) (pe_lst (pa_cons (pe_tup (pa_cons (pv 0) (pa_cons (pv 1) pa_nil))) pa_nil)))
  (pss_cons (ps_for PassesOwn.never rfl (pi_range1 rfl A.T.range (pa_cons pe_int pa_nil)) (pg_name (i := 3) sc_law_same.nd rfl (Or.inl rfl))
    (pss_cons (ps_if (pt_cmpR op_eq (pe_callB call_len_seq (by rfl) A.T.len PySem.boot_len (pa_cons (pv 2) pa_nil)) pe_int (nomark _))
    (pss_one (ps_ret pe_bl))
    pss_nil)
  (pss_cons (ps_asg (pe_bm0 PySem.F.plainAttrs_list PySem.F.slot_list_pop PySem.F.type_list_pop mt_pop (pv 2)) (pg_tup rfl (pgs_cons (pg_name (i := 4) sc_law_same.nd rfl (Or.inr rfl)) (pgs_cons (pg_name (i := 5) sc_law_same.nd rfl (Or.inr rfl)) pgs_nil))))
  (pss_one (ps_if (PW.pt (pw_or (pt_val (pe_callB call_isi (by rfl) A.T.isinstance (by decide +kernel) (pa_cons (pv 5) (pa_cons (pe_bltn (v := .ty "tuple") (by rfl) A.T.tuple (by decide +kernel) rfl) pa_nil)))) (pw_or1 (pt_val (pe_callB call_isi (by rfl) A.T.isinstance (by decide +kernel) (pa_cons (pv 5) (pa_cons (pe_bltn (v := .ty "list") (by rfl) A.T.list (by decide +kernel) rfl) pa_nil)))))))
    (pss_cons (ps_if (PW.pt (pw_or (pt_cmpR op_ne (pe_callB call_isi (by rfl) A.T.isinstance (by decide +kernel) (pa_cons (pv 5) (pa_cons (pe_bltn (v := .ty "tuple") (by rfl) A.T.tuple (by decide +kernel) rfl) pa_nil))) (pe_callB call_isi (by rfl) A.T.isinstance (by decide +kernel) (pa_cons (pv 4) (pa_cons (pe_bltn (v := .ty "tuple") (by rfl) A.T.tuple (by decide +kernel) rfl) pa_nil))) (nomark _)) (pw_or (pt_cmpR op_ne (pe_callB call_isi (by rfl) A.T.isinstance (by decide +kernel) (pa_cons (pv 5) (pa_cons (pe_bltn (v := .ty "list") (by rfl) A.T.list (by decide +kernel) rfl) pa_nil))) (pe_callB call_isi (by rfl) A.T.isinstance (by decide +kernel) (pa_cons (pv 4) (pa_cons (pe_bltn (v := .ty "list") (by rfl) A.T.list (by decide +kernel) rfl) pa_nil))) (nomark _)) (pw_or1 (pt_cmpR op_ne (pe_callB (call_or call_len_seq call_lenD) (by rfl) A.T.len PySem.boot_len (pa_cons (pv 4) pa_nil)) (pe_callB (call_or call_len_seq call_lenD) (by rfl) A.T.len PySem.boot_len (pa_cons (pv 5) pa_nil)) (nomark _))))))
    (pss_one (ps_ret pe_bl))
    pss_nil)
  (pss_one (ps_expr (pe_bm PySem.F.plainAttrs_list PySem.F.slot_list_extend PySem.F.type_list_extend mt_extend (pv 2) (pa_cons (pe_lc (own := [("at", 6)]) (g := (gName 6)) rfl sc_law_same.nd (pi_range1 rfl A.T.range (pa_cons (pe_callB (call_or call_len_seq call_lenD) (by rfl) A.T.len PySem.boot_len (pa_cons (pv 5) pa_nil)) pa_nil)) (blkOk_by (own := [("at", 6)]) (N := ["actual", "due", "left", "turn", "one", "other", "at", "key"]) (sc := defScope s_law_same) (by decide +kernel)) (fun _ _ _ _ _ => pg_name (i := 6) sc_law_same.nd rfl (Or.inl rfl)) (fun _ _ _ _ _ => pts_nil) (fun _ _ _ _ _ => (pe_tup (pa_cons (pe_ix (ix_any K rfl) (pv 4) (pv 6) (fun _ _ => rfl)) (pa_cons (pe_ix (ix_any K rfl) (pv 5) (pv 6) (fun _ _ => rfl)) pa_nil))))) pa_nil)))))
    (pss_one (ps_if (pt_val (pe_callB call_isi (by rfl) A.T.isinstance (by decide +kernel) (pa_cons (pv 5) (pa_cons (pe_bltn (v := .ty "dict") (by rfl) A.T.dict (by decide +kernel) rfl) pa_nil))))
    (pss_cons (ps_if (PW.pt (pw_or (pt_not (pt_val (pe_callB call_isi (by rfl) A.T.isinstance (by decide +kernel) (pa_cons (pv 4) (pa_cons (pe_bltn (v := .ty "dict") (by rfl) A.T.dict (by decide +kernel) rfl) pa_nil))))) (pw_or (pt_cmpR op_ne (pe_callB (call_or call_len_seq call_lenD) (by rfl) A.T.len PySem.boot_len (pa_cons (pv 4) pa_nil)) (pe_callB (call_or call_len_seq call_lenD) (by rfl) A.T.len PySem.boot_len (pa_cons (pv 5) pa_nil)) (nomark _)) (pw_or1 (pt_cmpR op_gt (pe_callB call_len_seq (by rfl) A.T.len PySem.boot_len (pa_cons (pe_lock (pe_lc (own := [("key", 7)]) (g := gName 7) rfl sc_law_same.nd (pi_keys (pv 5)) (blkOk_by (own := [("key", 7)]) (N := ["actual", "due", "left", "turn", "one", "other", "at", "key"]) (sc := defScope s_law_same) (by decide +kernel)) (fun _ _ _ _ _ => pg_name (i := 7) sc_law_same.nd rfl (Or.inl rfl)) (fun _ _ _ _ _ => pts_one pt_never) (fun _ _ _ _ _ => pe_never))) pa_nil)) pe_int (nomark _))))))
    (pss_one (ps_ret pe_bl))
    pss_nil)
  (pss_one (ps_expr (pe_bm PySem.F.plainAttrs_list PySem.F.slot_list_extend PySem.F.type_list_extend mt_extend (pv 2) (pa_cons (pe_lock (pe_lc (own := [("key", 7)]) (g := gName 7) rfl sc_law_same.nd (pi_keys (pv 5)) (blkOk_by (own := [("key", 7)]) (N := ["actual", "due", "left", "turn", "one", "other", "at", "key"]) (sc := defScope s_law_same) (by decide +kernel)) (fun _ _ _ _ _ => pg_name (i := 7) sc_law_same.nd rfl (Or.inl rfl)) (fun _ _ _ _ _ => pts_nil) (fun _ _ _ _ _ => pe_never))) pa_nil)))))
    (pss_one (ps_if (PW.pt (pw_or (pt_val (pe_callB call_isi (by rfl) A.T.isinstance (by decide +kernel) (pa_cons (pv 5) (pa_cons (pe_bltn (v := .ty "bool") (by rfl) A.T.bool (by decide +kernel) rfl) pa_nil)))) (pw_or1 (pt_val (pe_callB call_isi (by rfl) A.T.isinstance (by decide +kernel) (pa_cons (pv 5) (pa_cons (pe_bltn (v := .ty "str") (by rfl) A.T.str (by decide +kernel) rfl) pa_nil)))))))
    (pss_one (ps_if (PW.pt (pw_or (pt_cmpR op_ne (pe_callB call_isi (by rfl) A.T.isinstance (by decide +kernel) (pa_cons (pv 4) (pa_cons (pe_bltn (v := .ty "bool") (by rfl) A.T.bool (by decide +kernel) rfl) pa_nil))) (pe_callB call_isi (by rfl) A.T.isinstance (by decide +kernel) (pa_cons (pv 5) (pa_cons (pe_bltn (v := .ty "bool") (by rfl) A.T.bool (by decide +kernel) rfl) pa_nil))) (nomark _)) (pw_or (pt_cmpR op_ne (pe_callB call_isi (by rfl) A.T.isinstance (by decide +kernel) (pa_cons (pv 4) (pa_cons (pe_bltn (v := .ty "str") (by rfl) A.T.str (by decide +kernel) rfl) pa_nil))) (pe_callB call_isi (by rfl) A.T.isinstance (by decide +kernel) (pa_cons (pv 5) (pa_cons (pe_bltn (v := .ty "str") (by rfl) A.T.str (by decide +kernel) rfl) pa_nil))) (nomark _)) (pw_or1 (pt_cmpR op_ne (pv 4) (pv 5) (nomark _))))))
    (pss_one (ps_ret pe_bl))
    pss_nil))
    (pss_one (ps_if (pt_val (pe_callB call_isi (by rfl) A.T.isinstance (by decide +kernel) (pa_cons (pv 5) (pa_cons (pe_bltn (v := .ty "int") (by rfl) A.T.int (by decide +kernel) rfl) pa_nil))))
    (pss_one (ps_if (PW.pt (pw_or (pt_not (pt_val (pe_callB call_isi (by rfl) A.T.isinstance (by decide +kernel) (pa_cons (pv 4) (pa_cons (pe_bltn (v := .ty "int") (by rfl) A.T.int (by decide +kernel) rfl) pa_nil))))) (pw_or (pt_val (pe_callB call_isi (by rfl) A.T.isinstance (by decide +kernel) (pa_cons (pv 4) (pa_cons (pe_bltn (v := .ty "bool") (by rfl) A.T.bool (by decide +kernel) rfl) pa_nil)))) (pw_or1 (pt_cmpR op_ne (pv 4) (pv 5) (nomark _))))))
    (pss_one (ps_ret pe_bl))
    pss_nil))
    (pss_one (ps_if (pt_cmpR op_notN (pv 4) pe_non (nomark _))
    (pss_one (ps_ret pe_bl))
    pss_nil)))))))))))))
  (pss_one (ps_ret pe_bl)))), ?_⟩
    refine ⟨_, rfl, _, rfl, by show 2 ≤ sizeLine; decide, fun t nt => ⟨by show 1 ≤ sizeLine; decide, fun L nL => ?_⟩⟩
    have nL0 : H L = none := by
      by_cases e : L = t
      · rw [e]; exact nt
      · rw [upd_ne e] at nL; exact nL
    have ntL : t ≠ L := fun z => by rw [← z, upd_same] at nL; cases nL
    have aI : Adv [] H (upd (upd H t (.tup [v1, v2])) L (.lst [.ref t])) := (Adv.new nt).trans (Adv.new nL)
    refine ⟨2000000, rfl, by decide, by decide, for_range (lo := 0) (n := (2000000 : Int).toNat) (fun i σ' H' => ∃ (ds : List PyData) (vs : List V) (x3 x4 x5 : Option V), σ' = [some v1, some v2, some (.ref L), x3, x4, x5, none, none] ∧ Adv [] H H' ∧ H' L = some (.lst vs) ∧ IsDs [L] H' (ds.map prD) vs ∧ szL ds + i ≤ 1000000)
      ⟨[d0], [.ref t], none, none, none, rfl, aI, upd_same, ?_, ?_⟩ ?_ ?_⟩
    · have f1 := ((h1.fresh nL0).less (N := [L]) (by simp)).adv (aI.more (by simp))
      have f2 := ((h2.fresh nL0).less (N := [L]) (by simp)).adv (aI.more (by simp))
      exact IsDs.one (Is.tup (by rw [upd_ne ntL, upd_same]) (by simpa using ntL) (.cons f1 (IsDs.one f2)))
    · rw [szL_cons, szL_nil]
      omega
    · rintro i σ' H' hi ⟨ds, vs, x3, x4, x5, rfl, a', hL, hds, hsz⟩
      refine ⟨_, rfl, L, vs, rfl, .inl (SqL.of hL), rfl, _, rfl, ?_⟩
      rcases List.eq_nil_or_concat ds with rfl | ⟨ds', d, rfl⟩
      · have e0 : vs = [] := by unfold IsDs at hds; exact hds
        subst e0
        exact iteY rfl (q _ a')
      rw [List.concat_eq_append] at hds hsz
      rw [List.map_append] at hds
      obtain ⟨ws, v, rfl, hws, hv⟩ := IsDs.last (d := prD d) hds
      refine iteN (by simp; omega) ?_
      refine ⟨_, rfl, .inl ⟨rfl, _, SqL.of hL⟩, L, ws ++ [v], v, rfl, rfl, hL, by simp, ?_⟩
      rw [List.dropLast_concat]
      obtain ⟨tp, u1, u2, rfl, htp, hu1, hu2⟩ := hv.pair
      have aL : Adv [L] H' (upd H' L (.lst ws)) := Adv.set (by simp)
      have a2 : Adv [] H (upd H' L (.lst ws)) := a'.mut nL0
      have htp2 := htp.adv aL
      replace hu1 := hu1.adv aL
      replace hu2 := hu2.adv aL
      replace hws := hws.adv aL
      have hL2 : (upd H' L (.lst ws)) L = some (.lst ws) := upd_same
      have hwl := hws.len
      rw [szL_app, szL_cons, szL_nil] at hsz
      have szle : ∀ l : List PyData, l.length ≤ szL l := fun l => by
        induction l with
        | nil => exact Nat.zero_le _
        | cons c r ih =>
          rw [szL_cons, List.length_cons]
          have := sz_pos c
          omega
      have hdl := szle ds'
      rw [List.length_map] at hwl
      generalize upd H' L (.lst ws) = H2 at *
      have fin : ∀ (x3 x4 x5 : Option V) (H3 : Hp), Adv [] H2 H3 → ∃ (ds : List PyData) (vs : List V) (y3 y4 y5 : Option V), [some v1, some v2, some (.ref L), x3, x4, x5, none, none] = [some v1, some v2, some (.ref L), y3, y4, y5, none, none] ∧ Adv [] H H3 ∧ H3 L = some (.lst vs) ∧ IsDs [L] H3 (ds.map prD) vs ∧ szL ds + (i + 1) ≤ 1000000 := fun x3 x4 x5 H3 a3 =>
        ⟨ds', ws, x3, x4, x5, rfl, a2.trans a3, a3.same _ _ hL2, hws.adv (a3.more (by simp)), by have := sz_pos d; omega⟩
      refine ⟨tp, [u1, u2], rfl, htp2.sq A.W, rfl, _, _, rfl, _, _, rfl, rfl, ?_⟩
      cases d with
      | list cs =>
        refine ⟨_, rfl, _, _, _, _, _, rfl, .ty _, hu2.ty A.W, k_tuple _, _, rfl, ?_⟩
        refine iteN (by simp [kitD, tyN]) ?_
        refine ⟨_, rfl, _, _, _, _, _, rfl, .ty _, hu2.ty A.W, k_list _, _, rfl, iteY (by simp [kitD, tyN]) ?_⟩
        obtain ⟨b1, r1, rfl, nb1, hb1, hr1⟩ := hu1.lstE
        obtain ⟨b2, r2, rfl, nb2, hb2, hr2⟩ := hu2.lstE
        have hl1 := hr1.len
        have hl2 := hr2.len
        have szc : sz (.list cs) = 1 + szL cs := by rw [sz]
        have hcl := szle cs
        refine ⟨_, rfl, _, _, _, _, _, rfl, .ty _, hu2.ty A.W, k_tuple _, _, rfl, _, _, _, _, _, rfl, .ty _, hu1.ty A.W, k_tuple _, rfl, _, rfl, iteN (by simp) ?_⟩
        refine ⟨_, rfl, _, _, _, _, _, rfl, .ty _, hu2.ty A.W, k_list _, _, rfl, _, _, _, _, _, rfl, .ty _, hu1.ty A.W, k_list _, rfl, _, rfl, iteN (by simp) ?_⟩
        refine ⟨_, rfl, .inl ⟨b1, r1, rfl, .inl (SqL.of hb1), _, rfl, .inl ⟨b2, r2, rfl, .inl (SqL.of hb2), rfl, _, rfl, iteN (by simp [hl1, hl2]) ?_⟩⟩⟩
        refine ⟨_, rfl, .inl ⟨rfl, _, SqL.of hL2⟩, _, rfl, .inl ⟨b2, r2, rfl, .inl (SqL.of hb2), (r2.length : Int), rfl, by omega, by omega, fun D nD => ?_⟩⟩
        refine lc_dataR (M := [L]) (n := (r2.length : Int).toNat) (cs.map prD) (by simp [hl2]) nD (by simp [hl2]; omega) ?_ ?_
        · intro j dj H3 acc R hj a3 hD k
          have hjl : j < cs.length := by
            have := (List.getElem?_eq_some_iff.mp hj).1
            simpa using this
          have e0 : (0 : Int) + (j : Nat) = (j : Int) := by omega
          rw [e0]
          obtain ⟨w1, hw1, iw1⟩ := hr1.get (List.getElem?_eq_getElem hjl)
          obtain ⟨w2, hw2, iw2⟩ := hr2.get (List.getElem?_eq_getElem hjl)
          have ed : prD cs[j] = dj := by simpa [hjl] using hj
          refine ⟨rfl, _, rfl, _, rfl, .inl ⟨b1, r1, (j : Int), w1, rfl, rfl, SqL.of (a3.same _ _ hb1), atI_nat hw1, _, rfl, _, rfl, .inl ⟨b2, r2, (j : Int), w2, rfl, rfl, SqL.of (a3.same _ _ hb2), atI_nat hw2, by show 2 ≤ sizeLine; decide, fun T nT => ?_⟩⟩⟩
          have nDT : T ≠ D := (ne_of_none hD nT).symm
          have nLT : T ≠ L := (ne_of_none (a3.same _ _ hL2) nT).symm
          refine k _ _ (by rw [upd_ne nDT.symm]; exact hD) (Adv.new nT) ?_
          rw [← ed]
          have aa : Adv [D, L] H2 (upd H3 T (.tup [w1, w2])) := (a3.more (by simp)).trans (Adv.new nT)
          have g1 : Is [D, L] H2 cs[j] w1 := iw1.fresh nD
          have g2 : Is [D, L] H2 cs[j] w2 := iw2.fresh nD
          exact Is.tup upd_same (by simp [nDT, nLT]) (.cons (g1.adv aa) (IsDs.one (g2.adv aa)))
        · intro H3 acc a3 hD hacc
          have hal := hacc.len
          rw [List.length_map] at hal
          have hL3 := a3.same _ _ hL2
          have nDL : D ≠ L := (ne_of_none hL2 nD).symm
          refine ⟨L, D, ws, acc, rfl, rfl, hL3, hD, by rw [sizeLine_eq]; omega, ?_⟩
          refine ⟨ds' ++ cs, ws ++ acc, _, _, _, rfl, (a2.trans a3).mut nL0, upd_same, ?_, ?_⟩
          · rw [List.map_append]
            exact ((hws.adv (a3.more (by simp))).adv (Adv.set (by simp))).app ((hacc.less (by simp)).adv (Adv.set (by simp)))
          · rw [szL_app]
            omega
      | tuple cs =>
        refine ⟨_, rfl, _, _, _, _, _, rfl, .ty _, hu2.ty A.W, k_tuple _, _, rfl, ?_⟩
        refine iteY (by simp [kitD, tyN]) (iteY rfl ?_)
        obtain ⟨b1, r1, rfl, hb1, hr1⟩ := hu1.tupE
        obtain ⟨b2, r2, rfl, hb2, hr2⟩ := hu2.tupE
        have hl1 := hr1.len
        have hl2 := hr2.len
        have szc : sz (.tuple cs) = 1 + szL cs := by rw [sz]
        have hcl := szle cs
        refine ⟨_, rfl, _, _, _, _, _, rfl, .ty _, hu2.ty A.W, k_tuple _, _, rfl, _, _, _, _, _, rfl, .ty _, hu1.ty A.W, k_tuple _, rfl, _, rfl, iteN (by simp) ?_⟩
        refine ⟨_, rfl, _, _, _, _, _, rfl, .ty _, hu2.ty A.W, k_list _, _, rfl, _, _, _, _, _, rfl, .ty _, hu1.ty A.W, k_list _, rfl, _, rfl, iteN (by simp) ?_⟩
        refine ⟨_, rfl, .inl ⟨b1, r1, rfl, .inr (hb1.sq A.W), _, rfl, .inl ⟨b2, r2, rfl, .inr (hb2.sq A.W), rfl, _, rfl, iteN (by simp [hl1, hl2]) ?_⟩⟩⟩
        refine ⟨_, rfl, .inl ⟨rfl, _, SqL.of hL2⟩, _, rfl, .inl ⟨b2, r2, rfl, .inr (hb2.sq A.W), (r2.length : Int), rfl, by omega, by omega, fun D nD => ?_⟩⟩
        refine lc_dataR (M := [L]) (n := (r2.length : Int).toNat) (cs.map prD) (by simp [hl2]) nD (by simp [hl2]; omega) ?_ ?_
        · intro j dj H3 acc R hj a3 hD k
          have hjl : j < cs.length := by
            have := (List.getElem?_eq_some_iff.mp hj).1
            simpa using this
          have e0 : (0 : Int) + (j : Nat) = (j : Int) := by omega
          rw [e0]
          obtain ⟨w1, hw1, iw1⟩ := hr1.get (List.getElem?_eq_getElem hjl)
          obtain ⟨w2, hw2, iw2⟩ := hr2.get (List.getElem?_eq_getElem hjl)
          have ed : prD cs[j] = dj := by simpa [hjl] using hj
          refine ⟨rfl, _, rfl, _, rfl, .inr ⟨b1, r1, (j : Int), w1, rfl, rfl, (hb1.adv (Adv.nil a3)).sq A.W, atI_nat hw1, _, rfl, _, rfl, .inr ⟨b2, r2, (j : Int), w2, rfl, rfl, (hb2.adv (Adv.nil a3)).sq A.W, atI_nat hw2, by show 2 ≤ sizeLine; decide, fun T nT => ?_⟩⟩⟩
          have nDT : T ≠ D := (ne_of_none hD nT).symm
          have nLT : T ≠ L := (ne_of_none (a3.same _ _ hL2) nT).symm
          refine k _ _ (by rw [upd_ne nDT.symm]; exact hD) (Adv.new nT) ?_
          rw [← ed]
          have aa : Adv [D, L] H2 (upd H3 T (.tup [w1, w2])) := (a3.more (by simp)).trans (Adv.new nT)
          have g1 : Is [D, L] H2 cs[j] w1 := iw1.fresh nD
          have g2 : Is [D, L] H2 cs[j] w2 := iw2.fresh nD
          exact Is.tup upd_same (by simp [nDT, nLT]) (.cons (g1.adv aa) (IsDs.one (g2.adv aa)))
        · intro H3 acc a3 hD hacc
          have hal := hacc.len
          rw [List.length_map] at hal
          have hL3 := a3.same _ _ hL2
          have nDL : D ≠ L := (ne_of_none hL2 nD).symm
          refine ⟨L, D, ws, acc, rfl, rfl, hL3, hD, by rw [sizeLine_eq]; omega, ?_⟩
          refine ⟨ds' ++ cs, ws ++ acc, _, _, _, rfl, (a2.trans a3).mut nL0, upd_same, ?_, ?_⟩
          · rw [List.map_append]
            exact ((hws.adv (a3.more (by simp))).adv (Adv.set (by simp))).app ((hacc.less (by simp)).adv (Adv.set (by simp)))
          · rw [szL_app]
            omega
      | dict kvs =>
        refine ⟨_, rfl, _, _, _, _, _, rfl, .ty _, hu2.ty A.W, k_tuple _, _, rfl, iteN (by simp [kitD, tyN]) ?_⟩
        refine ⟨_, rfl, _, _, _, _, _, rfl, .ty _, hu2.ty A.W, k_list _, _, rfl, iteN (by simp [kitD, tyN]) ?_⟩
        refine ⟨_, rfl, _, _, _, _, _, rfl, .ty _, hu2.ty A.W, k_dict _, _, rfl, iteY (by simp [kitD, tyN]) ?_⟩
        obtain ⟨rfl, b1, rfl, nb1, hb1⟩ := hu1.dicE
        obtain ⟨_, b2, rfl, nb2, hb2⟩ := hu2.dicE
        refine ⟨_, rfl, _, _, _, _, _, rfl, .ty _, hu1.ty A.W, k_dict _, _, rfl, iteN (by simp [kitD, tyN]) ?_⟩
        refine ⟨_, rfl, .inr ⟨b1, [], rfl, hb1, _, rfl, .inr ⟨b2, [], rfl, hb2, rfl, _, rfl, iteN (by simp) ?_⟩⟩⟩
        refine ⟨b2, .dK [], hb2, trivial, fun od => ?_⟩
        refine ⟨_, rfl, b2, od, rfl, .inl ⟨[], upd_same, fun D nD => ?_⟩⟩
        have nDb : b2 ≠ D := fun z => by rw [← z, upd_same] at nD; cases nD
        have nD2 : H2 D = none := by rw [upd_ne nDb.symm] at nD; exact nD
        refine lc_keys0 (d := b2) (o := od) upd_same nD ?_
        refine ⟨by rw [upd_ne nDb]; exact upd_same, ?_⟩
        have a3 : Adv [] H2 (upd (upd (upd H2 b2 (.frz od (.dK []))) D (.lst [])) b2 (.dK [])) := fun b o _ e => by
          by_cases eb : b = b2
          · rw [eb, upd_same, ← hb2, ← eb, e]
          · rw [upd_ne eb, upd_ne (ne_of_none e nD2), upd_ne eb, e]
        have hD3 : (upd (upd (upd H2 b2 (.frz od (.dK []))) D (.lst [])) b2 (.dK [])) D = some (.lst []) := by rw [upd_ne nDb.symm, upd_same]
        refine ⟨D, [], rfl, .inl (SqL.of hD3), _, _, rfl, rfl, _, rfl, iteN (by decide) ?_⟩
        generalize (upd (upd (upd H2 b2 (.frz od (.dK []))) D (.lst [])) b2 (.dK [])) = H3 at *
        have hb3 := a3.same _ _ hb2
        have hL3 := a3.same _ _ hL2
        refine ⟨_, rfl, .inl ⟨rfl, _, SqL.of hL3⟩, b2, .dK [], hb3, trivial, fun od => ?_⟩
        refine ⟨_, rfl, b2, od, rfl, .inl ⟨[], upd_same, fun D nD => ?_⟩⟩
        have nDb : b2 ≠ D := fun z => by rw [← z, upd_same] at nD; cases nD
        have nD3 : H3 D = none := by rw [upd_ne nDb.symm] at nD; exact nD
        refine lc_keys0 (d := b2) (o := od) upd_same nD ?_
        refine ⟨by rw [upd_ne nDb]; exact upd_same, ?_⟩
        have a4 : Adv [] H3 (upd (upd (upd H3 b2 (.frz od (.dK []))) D (.lst [])) b2 (.dK [])) := fun b o _ e => by
          by_cases eb : b = b2
          · rw [eb, upd_same, ← hb3, ← eb, e]
          · rw [upd_ne eb, upd_ne (ne_of_none e nD3), upd_ne eb, e]
        have hD4 : (upd (upd (upd H3 b2 (.frz od (.dK []))) D (.lst [])) b2 (.dK [])) D = some (.lst []) := by rw [upd_ne nDb.symm, upd_same]
        generalize (upd (upd (upd H3 b2 (.frz od (.dK []))) D (.lst [])) b2 (.dK [])) = H4 at *
        have hL4 := a4.same _ _ hL3
        refine ⟨L, D, ws, [], rfl, rfl, hL4, hD4, by rw [sizeLine_eq, List.length_nil]; omega, ?_⟩
        refine ⟨ds', ws, _, _, _, rfl, ((a2.trans a3).trans a4).mut nL0, by rw [upd_same, List.append_nil], ?_, by have := sz_pos (.dict []); omega⟩
        exact ((hws.adv (a3.more (by simp))).adv (a4.more (by simp))).adv (Adv.set (by simp))
      | bool b =>
        refine ⟨_, rfl, _, _, _, _, _, rfl, .ty _, hu2.ty A.W, k_tuple _, _, rfl, iteN (by simp [kitD, tyN]) ?_⟩
        refine ⟨_, rfl, _, _, _, _, _, rfl, .ty _, hu2.ty A.W, k_list _, _, rfl, iteN (by simp [kitD, tyN]) ?_⟩
        refine ⟨_, rfl, _, _, _, _, _, rfl, .ty _, hu2.ty A.W, k_dict _, _, rfl, iteN (by simp [kitD, tyN]) ?_⟩
        refine ⟨_, rfl, _, _, _, _, _, rfl, .ty _, hu2.ty A.W, k_bool _, _, rfl, iteY (by simp [kitD, tyN]) (iteY rfl ?_)⟩
        refine ⟨_, rfl, _, _, _, _, _, rfl, .ty _, hu1.ty A.W, k_bool _, _, rfl, _, _, _, _, _, rfl, .ty _, hu2.ty A.W, k_bool _, rfl, _, rfl, iteN (by simp) ?_⟩
        refine ⟨_, rfl, _, _, _, _, _, rfl, .ty _, hu1.ty A.W, k_str _, _, rfl, _, _, _, _, _, rfl, .ty _, hu2.ty A.W, k_str _, rfl, _, rfl, iteN (by simp) ?_⟩
        cases hu1.blE
        cases hu2.blE
        exact ⟨_, rfl, _, rfl, rfl, _, rfl, iteN (by simp) (fin _ _ _ _ (Adv.refl _ _))⟩
      | str x =>
        refine ⟨_, rfl, _, _, _, _, _, rfl, .ty _, hu2.ty A.W, k_tuple _, _, rfl, iteN (by simp [kitD, tyN]) ?_⟩
        refine ⟨_, rfl, _, _, _, _, _, rfl, .ty _, hu2.ty A.W, k_list _, _, rfl, iteN (by simp [kitD, tyN]) ?_⟩
        refine ⟨_, rfl, _, _, _, _, _, rfl, .ty _, hu2.ty A.W, k_dict _, _, rfl, iteN (by simp [kitD, tyN]) ?_⟩
        refine ⟨_, rfl, _, _, _, _, _, rfl, .ty _, hu2.ty A.W, k_bool _, _, rfl, iteN (by simp [kitD, tyN]) ?_⟩
        refine ⟨_, rfl, _, _, _, _, _, rfl, .ty _, hu2.ty A.W, k_str _, _, rfl, iteY (by simp [kitD, tyN]) ?_⟩
        refine ⟨_, rfl, _, _, _, _, _, rfl, .ty _, hu1.ty A.W, k_bool _, _, rfl, _, _, _, _, _, rfl, .ty _, hu2.ty A.W, k_bool _, rfl, _, rfl, iteN (by simp) ?_⟩
        refine ⟨_, rfl, _, _, _, _, _, rfl, .ty _, hu1.ty A.W, k_str _, _, rfl, _, _, _, _, _, rfl, .ty _, hu2.ty A.W, k_str _, rfl, _, rfl, iteN (by simp) ?_⟩
        cases hu1.strE
        cases hu2.strE
        exact ⟨_, rfl, _, rfl, rfl, _, rfl, iteN (by simp) (fin _ _ _ _ (Adv.refl _ _))⟩
      | int n =>
        refine ⟨_, rfl, _, _, _, _, _, rfl, .ty _, hu2.ty A.W, k_tuple _, _, rfl, iteN (by simp [kitD, tyN]) ?_⟩
        refine ⟨_, rfl, _, _, _, _, _, rfl, .ty _, hu2.ty A.W, k_list _, _, rfl, iteN (by simp [kitD, tyN]) ?_⟩
        refine ⟨_, rfl, _, _, _, _, _, rfl, .ty _, hu2.ty A.W, k_dict _, _, rfl, iteN (by simp [kitD, tyN]) ?_⟩
        refine ⟨_, rfl, _, _, _, _, _, rfl, .ty _, hu2.ty A.W, k_bool _, _, rfl, iteN (by simp [kitD, tyN]) ?_⟩
        refine ⟨_, rfl, _, _, _, _, _, rfl, .ty _, hu2.ty A.W, k_str _, _, rfl, iteN (by simp [kitD, tyN]) ?_⟩
        refine ⟨_, rfl, _, _, _, _, _, rfl, .ty _, hu2.ty A.W, k_int _, _, rfl, iteY (by simp [kitD, tyN]) ?_⟩
        refine ⟨_, rfl, _, _, _, _, _, rfl, .ty _, hu1.ty A.W, k_int _, _, rfl, iteN (by simp [kitD, tyN]) ?_⟩
        refine ⟨_, rfl, _, _, _, _, _, rfl, .ty _, hu1.ty A.W, k_bool _, _, rfl, iteN (by simp [kitD, tyN]) ?_⟩
        cases hu1.intE
        cases hu2.intE
        exact ⟨_, rfl, _, rfl, rfl, _, rfl, iteN (by simp) (fin _ _ _ _ (Adv.refl _ _))⟩
      | none =>
        refine ⟨_, rfl, _, _, _, _, _, rfl, .ty _, hu2.ty A.W, k_tuple _, _, rfl, iteN (by simp [kitD, tyN]) ?_⟩
        refine ⟨_, rfl, _, _, _, _, _, rfl, .ty _, hu2.ty A.W, k_list _, _, rfl, iteN (by simp [kitD, tyN]) ?_⟩
        refine ⟨_, rfl, _, _, _, _, _, rfl, .ty _, hu2.ty A.W, k_dict _, _, rfl, iteN (by simp [kitD, tyN]) ?_⟩
        refine ⟨_, rfl, _, _, _, _, _, rfl, .ty _, hu2.ty A.W, k_bool _, _, rfl, iteN (by simp [kitD, tyN]) ?_⟩
        refine ⟨_, rfl, _, _, _, _, _, rfl, .ty _, hu2.ty A.W, k_str _, _, rfl, iteN (by simp [kitD, tyN]) ?_⟩
        refine ⟨_, rfl, _, _, _, _, _, rfl, .ty _, hu2.ty A.W, k_int _, _, rfl, iteN (by simp [kitD, tyN]) ?_⟩
        cases hu1.nonE
        cases hu2.nonE
        exact ⟨_, rfl, rfl, _, rfl, iteN (by simp) (fin _ _ _ _ (Adv.refl _ _))⟩
    · rintro σ' H' ⟨ds, vs, x3, x4, x5, rfl, a', hL, hds, hsz⟩
      have : (2000000 : Int).toNat = 2000000 := rfl
      omega
end
end K10

set_option Elab.async false
set_option linter.all false
set_option maxRecDepth 100000
set_option maxHeartbeats 400000
namespace K10
open PySem PySem.Spec PyProof.Rows L2 LL
section
variable [KW]
variable {P : Program} {w : World} {K : PySem.W.Frag} {mg : Str → Option Value} {base : Heap}
/-! ### _law_row, by the book's content -/
structure RowP (vs : List V) (H : Hp) (Q : VK) : Prop where
  ex : ∃ (M : List Addr) (bk b0 b1 nd : Addr) (ns : List Nd) (n : Nd), vs = [.ref bk, .ref nd] ∧ H bk = some (.lst [.ref b0, .ref b1]) ∧ bk ∉ M ∧ BkN M H b0 b1 ns ∧ Tp M H nd (n.keys.map kV) ∧ ns.length ≤ 1000000 ∧
  ∀ H', BkN M H' b0 b1 (rowF ns n).2 → Adv [b0, b1] H H' → Q (.int ((rowF ns n).1 : Nat)) H'
def spRowN : Sp := fun vs H Q _ => RowP vs H Q
theorem ok_law_row (A : All K mg w) : FnOk P w K mg base CX0 1 A.law_row.f A.law_row.fd ["book", "node"] spRowN := by
  refine A.law_row.F.ok sc_law_row (fun vs H Q E h => ?_) (fun cdv Ar outer s H vs Q E hr h => ?_)
  · obtain ⟨M, bk, b0, b1, nd, ns, n, rfl, _⟩ := h.ex
    rfl
  · obtain ⟨M, bk, b0, b1, nd, ns, n, rfl, hbk, kM, B, hnd, hl, q⟩ := h.ex
    refine ⟨_, (pss_cons (ps_if (pt_cmp (pc_dnotinX A.W (hu_of hr) (pv 1) (pe_ix ix_list (pv 0) pe_int (fun _ _ => rfl))))
    (pss_cons (ps_dputX A.W (hu_of hr) (pe_ix ix_list (pv 0) pe_int (fun _ _ => rfl)) (pv 1) (pe_callB call_len_seq (by rfl) A.T.len PySem.boot_len (pa_cons (pe_ix ix_list (pv 0) pe_int (fun _ _ => rfl)) pa_nil)) rfl)
  (pss_one (ps_expr (pe_bm PySem.F.plainAttrs_list PySem.F.slot_list_append PySem.F.type_list_append mt_append (pe_ix ix_list (pv 0) pe_int (fun _ _ => rfl)) (pa_cons (pv 1) pa_nil)))))
    pss_nil)
  (pss_one (ps_ret (pe_dgetX A.W (hu_of hr) (pe_ix ix_list (pv 0) pe_int (fun _ _ => rfl)) (pv 1) (fun _ _ => rfl))))), ?_⟩
    obtain ⟨⟨rs, r0, rd⟩, r1, m0, m1, n01, al⟩ := id B
    have hrl : rs.length = ns.length := by have := rd.len; rw [List.length_map] at this; exact this
    have i0 : atI [V.ref b0, .ref b1] 0 = some (.ref b0) := atI_nat (j := 0) rfl
    have i1 : atI [V.ref b0, .ref b1] 1 = some (.ref b1) := atI_nat (j := 1) rfl
    have hv := tab_val 0 ns n
    refine ⟨_, rfl, _, rfl, bk, _, 1, _, rfl, rfl, SqL.of hbk, i1, b1, _, rfl, r1.get A.W hnd, _, rfl, ?_⟩
    by_cases hm : n ∈ ns
    · rw [if_pos hm, Nat.zero_add] at hv
      rw [hv]
      refine iteN rfl ?_
      refine ⟨_, rfl, bk, _, 1, _, rfl, rfl, SqL.of hbk, i1, _, rfl, b1, .int (ns.idxOf n : Nat), rfl, by have := r1.get A.W hnd; rw [hv] at this; exact this, ?_⟩
      unfold rowF at q
      rw [if_pos hm] at q
      exact q H B (Adv.refl _ _)
    · rw [if_neg hm] at hv
      rw [hv]
      refine iteY rfl ?_
      obtain ⟨o, hg, B2⟩ := B.push A.W r0 hnd hm (by rw [sizeLine_eq]; omega)
      refine ⟨_, rfl, bk, _, 0, _, rfl, rfl, SqL.of hbk, i0, b0, rs, rfl, .inl (SqL.of r0), ?_⟩
      refine ⟨_, rfl, bk, _, 1, _, rfl, rfl, SqL.of hbk, i1, _, rfl, b1, _, rfl, hg, ?_⟩
      have kb1 : bk ≠ b1 := fun z => kM (by rw [z]; exact m1)
      have kb0 : bk ≠ b0 := fun z => kM (by rw [z]; exact m0)
      have hbk1 : (upd H b1 o) bk = some (.lst [.ref b0, .ref b1]) := by rw [upd_ne kb1]; exact hbk
      have r01 : (upd H b1 o) b0 = some (.lst rs) := by rw [upd_ne n01]; exact r0
      refine ⟨_, rfl, bk, _, 0, _, rfl, rfl, SqL.of hbk1, i0, .inl ⟨rfl, _, SqL.of r01⟩, _, rfl, b0, rs, _, rfl, rfl, r01, by rw [sizeLine_eq]; omega, ?_⟩
      have aa : Adv [b0, b1] H (upd (upd H b1 o) b0 (.lst (rs ++ [.ref nd]))) := (Adv.set (by simp)).trans (Adv.set (by simp))
      have hbk2 : (upd (upd H b1 o) b0 (.lst (rs ++ [.ref nd]))) bk = some (.lst [.ref b0, .ref b1]) := by rw [upd_ne kb0]; exact hbk1
      have hnd2 := hnd.adv (aa.more (by simp [m0, m1]))
      have hval : valV (tabG 0 (ns ++ [n])) n.keys = some (.int (ns.length : Nat)) := by
        rw [tab_val, if_pos (by simp), Nat.zero_add, List.idxOf_append, if_neg hm]
        simp [List.idxOf_cons]
      refine ⟨_, rfl, bk, _, 1, _, rfl, rfl, SqL.of hbk2, i1, _, rfl, b1, _, rfl, by have := B2.tab.get A.W hnd2; rw [hval] at this; exact this, ?_⟩
      unfold rowF at q
      rw [if_neg hm] at q
      exact q _ B2 aa
end
end K10

set_option Elab.async false
set_option linter.all false
set_option maxRecDepth 100000
set_option maxHeartbeats 400000
namespace K10
open PySem PySem.Spec PyProof.Rows L2 LL
section
variable [KW]
variable {P : Program} {w : World} {K : PySem.W.Frag} {mg : Str → Option Value} {base : Heap}
theorem row_callN {M : List Addr} {H : Hp} {bk b0 b1 p : Addr} {ns : List Nd} {Q : VK} (n : Nd) (hbk : H bk = some (.lst [.ref b0, .ref b1])) (kM : bk ∉ M) (B : BkN M H b0 b1 ns) (hp : H p = none) (hl : ns.length ≤ 1000000)
    (q : ∀ H', H' bk = some (.lst [.ref b0, .ref b1]) → BkN M H' b0 b1 (rowF ns n).2 → Adv [b0, b1] H H' → Q (.int ((rowF ns n).1 : Nat)) H') : RowP [.ref bk, .ref p] (upd H p (.tup (n.keys.map kV))) Q := by
  have a : Adv [] H (upd H p (.tup (n.keys.map kV))) := Adv.new hp
  have kk : bk ∉ [b0, b1] := fun z => by
    rcases List.mem_cons.mp z with z | z
    · exact kM (by rw [z]; exact B.m0)
    · exact kM (by rw [List.mem_singleton.mp z]; exact B.m1)
  have hbk1 := a.same _ _ hbk
  exact ⟨⟨M, bk, b0, b1, p, ns, n, rfl, hbk1, kM, B.same a, Tp.of upd_same (not_mem_new B.al hp), hl, fun H' B' a' => q H' (a' _ _ kk hbk1) B' ((Adv.nil a).trans a')⟩⟩
/-! ### _law_not -/
def spNotN : Sp := fun vs H Q _ => ∃ (M : List Addr) (bk b0 b1 : Addr) (ns : List Nd) (r : Nat), vs = [.ref bk, .int r] ∧ H bk = some (.lst [.ref b0, .ref b1]) ∧ bk ∉ M ∧ BkN M H b0 b1 ns ∧ ns.length ≤ 900000 ∧
  ∀ H', BkN M H' b0 b1 (denyF ns r).2 → Adv [b0, b1] H H' → Q (.int ((denyF ns r).1 : Nat)) H'
theorem ok_law_not (A : All K mg w) : FnOk P w K mg base CX0 2 A.law_not.f A.law_not.fd ["book", "row"] spNotN := by
  refine A.law_not.F.ok sc_law_not (fun vs H Q E h => ?_) (fun cdv Ar outer s H vs Q E hr h => ?_)
  · obtain ⟨M, bk, b0, b1, ns, r, rfl, _⟩ := h
    rfl
  · obtain ⟨M, bk, b0, b1, ns, r, rfl, hbk, kM, B, hl, q⟩ := h
    refine ⟨_, (pss_one (ps_ret (pe_call (ok_law_row A) (hr.mono (by omega)) rfl A.law_row.m A.law_row.F.kp A.law_row.b .nil pass0 (pa_cons (pv 0) (pa_cons (pe_tup (pa_cons pe_str (pa_cons (pv 1) (pa_cons (pe_call (ok_law_row A) (hr.mono (by omega)) rfl A.law_row.m A.law_row.F.kp A.law_row.b .nil pass0 (pa_cons (pv 0) (pa_cons (pe_tup (pa_cons pe_str pa_nil)) pa_nil))) pa_nil)))) pa_nil))))), ?_⟩
    refine ⟨_, rfl, _, rfl, _, rfl, by show 1 ≤ sizeLine; decide, fun p np => ?_⟩
    refine row_callN .no hbk kM B np (by omega) fun H1 hbk1 B1 a1 => ?_
    refine ⟨by show 3 ≤ sizeLine; decide, fun p2 np2 => ?_⟩
    have hl1 : (rowF ns .no).2.length ≤ ns.length + 1 := by
      unfold rowF
      split <;> simp
    exact row_callN (.bin .imp r (rowF ns .no).1) hbk1 kM B1 np2 (by omega) fun H2 hbk2 B2 a2 => q H2 B2 (a1.trans a2)
end
end K10

set_option Elab.async false
set_option linter.all false
set_option maxRecDepth 100000
set_option maxHeartbeats 400000
namespace K10
open PySem PySem.Spec PyProof.Rows L2 LL
section
variable [KW]
variable {P : Program} {w : World} {K : PySem.W.Frag} {mg : Str → Option Value} {base : Heap}
theorem atI_nat0 {xs : List V} {j : Nat} {v : V} (h : xs[j]? = some v) : atI xs (0 + (j : Nat)) = some v := by
  rw [Int.zero_add]
  exact atI_nat h
theorem ixN_of {n j : Nat} (h : j < n) : ixN n (j : Int) = some j := by
  unfold ixN
  rw [if_pos (Int.natCast_nonneg j), if_pos (by omega), Int.toNat_natCast]
def nV (l : List Nat) : List V := l.map fun i => V.int (i : Nat)
theorem row_len (ns : List Nd) (n : Nd) : (rowF ns n).2.length ≤ ns.length + 1 := by
  unfold rowF
  split <;> simp
end
end K10

set_option Elab.async false
set_option linter.all false
set_option maxRecDepth 100000
set_option maxHeartbeats 400000
namespace K10
open PySem PySem.Spec PyProof.Rows L2 LL
def allNames : List Str := ["BadLogic", "BadSheet", "BadModel"]
/-- the classes of errors -/
structure Exs (K : PySem.W.Frag) (mg : Str → Option Value) where
  CE : Addr
  cA : Str → Addr
  mC : mg "CourtError" = some (.ref CE)
  mA : ∀ n ∈ allNames, mg n = some (.ref (cA n))
/-- what kind of error the class of this name is -/
structure NF {K : PySem.W.Frag} {mg : Str → Option Value} (Z : Exs K mg) (nm : Str) : Prop where
  eD : ExcC K (Z.cA nm)
  k : ∀ n ∈ allNames, PySem.W.kitOne K (.ref (Z.cA nm)) (.ref (Z.cA n)) = some (decide (n = nm))
  kC : PySem.W.kitOne K (.ref (Z.cA nm)) (.ref Z.CE) = some true
  kV : PySem.W.kitOne K (.ref (Z.cA nm)) (.type "ValueError") = some true
  hC : PySem.W.exmOne K (.ref (Z.cA nm)) (.ref Z.CE) = some true
  hS : PySem.W.exmOne K (.ref (Z.cA nm)) (.ref (Z.cA nm)) = some true
def allBs (nm : Str) : List V := allNames.map fun n => V.bl (decide (n = nm))

abbrev s_BadModel : Stmt := inClass (top 4) 0
theorem sc_BadModel : FnScope ["self", "word"] ["self", "word"] (defScope s_BadModel) := ⟨rfl, rfl, rfl, by decide +kernel, rfl, by decide +kernel, by decide +kernel⟩
structure Er_BadModel {K : PySem.W.Frag} {mg : Str → Option Value} (Z : Exs K mg) where
  O : OexC K (Z.cA "BadModel")
  f : Addr
  fd : FuncData
  I : PySem.W.findIn K (.ref (Z.cA "BadModel")) "__init__" = some (some (.ref f))
  T : PySem.W.typeIn K (.ref f) = some (.type "function")
  F : Fun K "__init__" "BadModel.__init__" s_BadModel f fd
  b : Binds K fd ["self", "word"] []
  X : XfC K (Z.cA "BadModel")
  A_ : PySem.W.findIn K (.ref (Z.cA "BadModel")) "word" = some none
  N : NF Z "BadModel"
section
variable [KW]
variable {P : Program} {w : World} {K : PySem.W.Frag} {mg : Str → Option Value} {base : Heap}
/-! ### __init__ -/
def spInit (S : Addr) (fl : Str) : Sp := fun vs H Q _ => ∃ (a : Addr) (y : V), vs = [.ref a, y] ∧ H a = some (exo a S none) ∧ ∀ dx, H dx = none → dx ≠ a → Q .non (upd (upd H dx (exd dx [(fl, y)])) a (exo a S (some dx)))
theorem ok_BadModel {Z : Exs K mg} (Z1 : Er_BadModel Z) : FnOk P w K mg base CX0 1 Z1.f Z1.fd ["self", "word"] (spInit (Z.cA "BadModel") "word") := by
  refine Z1.F.ok sc_BadModel (fun vs H Q E h => ?_) (fun cdv Ar outer s H vs Q E hr h => ?_)
  · obtain ⟨a, y, rfl, _⟩ := h
    rfl
  · obtain ⟨a, y, rfl, ha, q⟩ := h
    refine ⟨_, pss_one (ps_ost (pv 0) (pv 1)), ?_⟩
    exact ⟨_, rfl, _, rfl, a, Z.cA "BadModel", rfl, Z1.O, Z1.A_, .inl ⟨ha, fun dx n1 n2 => q dx n1 n2⟩⟩
theorem takes_no {X : Cx} : L2N.Takes X (fun _ _ _ _ => False) := fun u s' ⟨_, _, _, _, _, _, _, _, _, _, _, _, _, _, _, _, w⟩ => w.elim
theorem adv_raise {H1 : Hp} {a dx : Addr} {o1 o2 o3 o4 : HO} (na : H1 a = none) (n1 : H1 dx = none) : Adv [] H1 (upd (del (upd (upd (upd H1 a o1) dx o2) a o3) a) dx o4) := fun b o hb eb => by
  have hba : b ≠ a := ne_of_none eb na
  have hbd : b ≠ dx := ne_of_none eb n1
  rw [upd_ne hbd, del_ne hba, upd_ne hba, upd_ne hbd, upd_ne hba]
  exact eb
theorem passN0 {X : Cx} : Passes (L2N.CX X.prog X.w) X E0 := fun pins σ H s e s' _ h => by
  obtain ⟨_, _, _, _, _, _, _, _, _, _, _, _, e⟩ := h
  exact e.elim
end
end K10

set_option Elab.async false
set_option linter.all false
set_option maxRecDepth 100000
set_option maxHeartbeats 400000
namespace K10
open PySem PySem.Spec PyProof.Rows L2 LL
open C8 (pss_cut)
local macro_rules | `(tactic| walk_at "ne") => `(tactic| first | assumption | (apply Ne.symm; assumption) | exact ne_of_none (by walk_at "hp") (by assumption) | exact (ne_of_none (by walk_at "hp") (by assumption)).symm)
local macro_rules | `(tactic| walk_at "nm") => `(tactic| first | assumption | exact notin0 | exact notin1 (by walk_at "ne") | exact notin2 (by walk_at "ne") (by walk_at "ne"))
local macro_rules | `(tactic| walk_at "hp") => `(tactic| first | assumption | exact upd_same | (refine Eq.trans (upd_ne ?ne) ?hh; (case hh => walk_at "hp"); (case ne => walk_at "ne")) | (refine Adv.get' (by assumption) ?hh ?nn; (case hh => walk_at "hp"); (case nn => walk_at "nm")))
local macro_rules | `(tactic| walk_at "tp") => `(tactic| first | assumption | exact Tp.adv (by walk_at "tp") (by assumption) | exact Tp.adv (by walk_at "tp") (Adv.nil (by assumption)))
local macro_rules | `(tactic| walk_at "sq") => `(tactic| first | assumption | exact Tp.sq (by assumption) (by walk_at "tp") | exact SqT.of (by walk_at "hp"))
local macro_rules | `(tactic| walk_at "at") => `(tactic| first | exact atI_nat (j := 0) rfl | exact atI_nat (j := 1) rfl | exact atI_nat (j := 2) rfl | exact atI_nat (j := 3) rfl | exact atI_nat (by assumption) | (rw [Int.zero_add]; exact atI_nat (by assumption)))
local macro_rules | `(tactic| walk_at "bb") => `(tactic| first | assumption | decide | exact rfl)
local macro_rules | `(tactic| walk_at "ci") => `(tactic| first | omega | (dsimp only; omega) | (unfold CDiv; omega) | (unfold CMul; omega))
local macro_rules | `(tactic| walk_at "rd1") => `(tactic| first
  | with_reducible refine rd_c ?_
  | ((with_reducible refine' rd_var ?rh ?_); (case rh => exact rfl))
  | with_reducible refine rd_op ?_
  | with_reducible refine rd_seq ?_
  | with_reducible refine rd_asg ?_
  | with_reducible refine rd_gname ?_
  | with_reducible refine rd_ifS ?_
  | with_reducible refine rd_test ?_
  | with_reducible refine rd_tB ?_
  | with_reducible refine rd_blP ?_
  | ((with_reducible refine' iteY ?rh ?_); (case rh => walk_at "bb"))
  | ((with_reducible refine' iteN ?rh ?_); (case rh => walk_at "bb"))
  | with_reducible refine rd_ret ?_
  | with_reducible refine rd_nx ?_
  | ((with_reducible refine' rd_eq ?rh ?_); (case rh => exact rfl))
  | ((with_reducible refine' rd_ne ?rh ?_); (case rh => exact rfl))
  | with_reducible refine rd_add ?_
  | with_reducible refine rd_sub ?_
  | with_reducible refine rd_i0 ?_
  | with_reducible refine rd_and ?_
  | with_reducible refine rd_or ?_
  | with_reducible refine rd_not ?_
  | with_reducible refine rd_andV ?_
  | with_reducible refine rd_orV ?_
  | with_reducible refine rd_notV ?_
  | with_reducible refine rd_ifE ?_
  | with_reducible refine rd_isN ?_
  | with_reducible refine rd_notN ?_
  | with_reducible refine rd_cons ?_
  | with_reducible refine rd_nil ?_
  | with_reducible refine rd_tup ?_
  | with_reducible refine rd_lst ?_
  | with_reducible refine rd_call ?_
  | with_reducible refine rd_cb ?_
  | with_reducible refine rd_meth ?_
  | with_reducible refine rd_callS ?_
  | with_reducible refine rd_make ?_
  | with_reducible refine rd_rfl ?_
  | with_reducible refine rd_fld ?_
  | with_reducible refine rd_drop ?_
  | with_reducible refine rd_gsub ?_
  | with_reducible refine rd_gcons ?_
  | with_reducible refine rd_gnil ?_
  | with_reducible refine rd_par ?_
  | with_reducible refine rd_two ?_
  | with_reducible refine rd_par3 ?_
  | with_reducible refine rd_three ?_
  | with_reducible refine rd_int1 ?_
  | ((with_reducible refine' rd_i ?rh ?_); (case rh => walk_at "ci"))
  | with_reducible refine rd_part ?_
  | with_reducible refine rd_nopart ?_
  | with_reducible refine rd_int ?_
  | with_reducible refine rd_sl ?_
  | with_reducible refine rd_bm ?_
  | with_reducible refine rd_bm0 ?_
  | with_reducible refine rd_dgetT ?_
  | with_reducible refine rd_din ?_
  | with_reducible refine rd_dnin ?_
  | with_reducible refine rd_un ?_
  | ((with_reducible refine' rd_ixL ?rh ?re ?_); (case rh => walk_at "hp"); (case re => walk_at "at"))
  | ((with_reducible refine' rd_ixT ?rh ?re ?_); (case rh => walk_at "sq"); (case re => walk_at "at"))
  | ((with_reducible refine' rd_lenT ?rh ?_); (case rh => walk_at "sq"))
  | ((with_reducible refine' rd_tyL ?rh ?_); (case rh => walk_at "hp"))
  | ((with_reducible refine' rd_len ?rh ?_); (case rh => walk_at "hp"))
  | with_reducible refine rd_u ?_
  | ((with_reducible refine' rd_slL ?rh ?_); (case rh => walk_at "hp"))
  | with_reducible refine rd_for ?_
  | with_reducible refine rd_rng1 ?_
  | with_reducible refine rd_rng2 ?_
  | with_reducible refine rd_ints1 ?_
  | with_reducible refine rd_ints2 ?_
  | with_reducible refine rd_retN ?_)
local macro_rules | `(tactic| walk_at "rd") => `(tactic| repeat walk_at "rd1")
section
variable [KW]
variable {P : Program} {w : World} {K : PySem.W.Frag} {mg : Str → Option Value} {base : Heap}
/-- a node that was written just now is put into the book -/
theorem row_dn {M : List Addr} {H H0 : Hp} {s bk b0 b1 p : Addr} {bx : Bool} {ns0 ns : List Nd} {c : Nat} {Q : VK} (n : Nd) (D : Dw M H s bk b0 b1 bx ns) (hp : H p = none) (hn : n.ok bx ns.length = true) (hl : ns.length ≤ 900000)
    (pre : ns0 <+: ns) (hc : ns.length + 1 ≤ ns0.length + c) (a0 : Adv [s, b0, b1] H0 H) (q : ∀ r ns' H', Dn c M s bk b0 b1 bx ns0 H0 r ns' H' → Q (.int (r : Nat)) H') : RowP [.ref bk, .ref p] (upd H p (.tup (n.keys.map kV))) Q := by
  have a : Adv [] H (upd H p (.tup (n.keys.map kV))) := Adv.new hp
  have D1 := D.same a
  have h1 := row_len ns n
  exact ⟨⟨M, bk, b0, b1, p, ns, n, rfl, D1.hbk, D.kM, D1.B, Tp.of upd_same (not_mem_new D.B.al hp), by omega, fun H' B' a' => q _ _ H' ⟨pre.trans (rowF_pre ns n), rowF_lt ns n, by omega, D1.row hn a' B', (a0.trans (Adv.nil a)).trans (a_b a')⟩⟩⟩
/-! ### _law_leaf -/
structure LeafP (vs : List V) (H : Hp) (Q : VK) : Prop where
  ex : ∃ (M : List Addr) (s bk b0 b1 : Addr) (bx : Bool) (ns : List Nd) (letters : Int), vs = [.ref s, .ref bk, .int letters] ∧ Dw M H s bk b0 b1 bx ns ∧ 0 < letters ∧ letters ≤ 8 ∧ ns.length ≤ 900000 ∧
    ∀ r ns' H', Dn 1 M s bk b0 b1 bx ns H r ns' H' → Q (.int (r : Nat)) H'
def spLeaf : Sp := fun vs H Q _ => LeafP vs H Q
theorem ok_law_leaf (A : All K mg w) : FnOk P w K mg base CX0 2 A.law_leaf.f A.law_leaf.fd ["stream", "book", "letters"] spLeaf := by
  refine A.law_leaf.F.ok sc_law_leaf (fun vs H Q E h => ?_) (fun cdv Ar outer s H vs Q E hr h => ?_)
  · obtain ⟨M, s, bk, b0, b1, bx, ns, letters, rfl, _⟩ := h.ex
    rfl
  · obtain ⟨M, s, bk, b0, b1, bx, ns, letters, rfl, D, l0, l1, hl, q⟩ := h.ex
    refine ⟨_, (pss_one (ps_ret (pe_call (ok_law_row A) (hr.mono (by omega)) rfl A.law_row.m A.law_row.F.kp A.law_row.b .nil pass0 (pa_cons (pv 1) (pa_cons (pe_ifExp (pt_cmpR op_eq (pe_call (ok_law_next A) (hr.mono (by omega)) rfl A.law_next.m A.law_next.F.kp A.law_next.b .nil pass0 (pa_cons (pv 0) (pa_cons pe_int pa_nil))) pe_int (nomark _)) (pe_tup (pa_cons pe_str pa_nil)) (pe_tup (pa_cons pe_str (pa_cons (pe_call (ok_law_next A) (hr.mono (by omega)) rfl A.law_next.m A.law_next.F.kp A.law_next.b .nil pass0 (pa_cons (pv 0) (pa_cons (pv 2) pa_nil))) pa_nil)))) pa_nil))))), ?_⟩
    walk_at "rd"
    refine ⟨s, 7, M, rfl, D.str, by decide, by decide, fun d H1 d0 d1 hs1 a1 => ?_⟩
    have D1 := D.next a1 hs1
    walk_at "rd"
    refine iteB (fun e => ?_) (fun e => ?_)
    · walk_at "rd"
      refine ⟨by show 1 ≤ sizeLine; decide, fun p np => ?_⟩
      walk_at "rd"
      exact row_dn .no D1 np rfl hl (List.prefix_refl _) (by omega) (a_s a1) q
    · walk_at "rd"
      refine ⟨s, letters, M, rfl, hs1, l0, by omega, fun x H2 x0 x1 hs2 a2 => ?_⟩
      have D2 := D1.next a2 hs2
      obtain ⟨j, rfl⟩ : ∃ j : Nat, x = (j : Int) := ⟨x.toNat, by omega⟩
      walk_at "rd"
      refine ⟨by show 2 ≤ sizeLine; decide, fun p np => ?_⟩
      walk_at "rd"
      exact row_dn (.letter j) D2 np (by simp only [Nd.ok, decide_eq_true_eq]; omega) hl (List.prefix_refl _) (by omega) ((a_s a1).trans (a_s a2)) q
/-! ### _law_tree -/
structure TreeP (c : Int → Nat) (m : Nat) (vs : List V) (H : Hp) (Q : VK) : Prop where
  ex : ∃ (M : List Addr) (s bk b0 b1 : Addr) (bx : Bool) (ns : List Nd) (letters many : Int), vs = [.ref s, .ref bk, .int letters, .int many, .bl bx] ∧ Dw M H s bk b0 b1 bx ns ∧ 0 < letters ∧ letters ≤ 8 ∧ 0 ≤ many ∧ many ≤ m ∧ m ≤ 1000 ∧ ns.length + 4 * many.toNat ≤ 800000 ∧
    ∀ r ns' H', Dn (c many) M s bk b0 b1 bx ns H r ns' H' → Q (.int (r : Nat)) H'
def spTree (m : Nat) : Sp := fun vs H Q _ => TreeP (fun many => 2 * many.toNat + 1) m vs H Q
theorem op_pick {x : V} (h : x ∈ [V.str "and", .str "or", .str "if", .str "if"]) : ∃ o : Op3, x = .str o.str := by
  simp at h
  rcases h with h | h | h
  · exact ⟨.and, h⟩
  · exact ⟨.or, h⟩
  · exact ⟨.imp, h⟩
theorem tree_0 (A : All K mg w) : FnOk P w K mg base CX0 3 A.law_tree.f A.law_tree.fd ["stream", "book", "letters", "many", "boxed"] (spTree 0) := by
  refine A.law_tree.F.ok sc_law_tree (fun vs H Q E h => ?_) (fun cdv Ar outer s H vs Q E hr h => ?_)
  · obtain ⟨M, s, bk, b0, b1, bx, ns, letters, many, rfl, _⟩ := h.ex
    rfl
  · obtain ⟨M, s, bk, b0, b1, bx, ns, letters, many, rfl, D, l0, l1, m0, mm, m1, hl, q⟩ := h.ex
    refine ⟨_, (pss_cons (ps_if (pt_cmpR op_le (pv 3) pe_int (nomark _))
    (pss_one (ps_ret (pe_call (ok_law_leaf A) (hr.mono (by omega)) rfl A.law_leaf.m A.law_leaf.F.kp A.law_leaf.b .nil pass0 (pa_cons (pv 0) (pa_cons (pv 1) (pa_cons (pv 2) pa_nil))))))
    pss_nil)
  (pss_cut (ps_if (PW.pt (pw_and (pt_val (pv 4)) (pw_and1 (pt_cmpR op_lt (pe_call (ok_law_next A) (hr.mono (by omega)) rfl A.law_next.m A.law_next.F.kp A.law_next.b .nil pass0 (pa_cons (pv 0) (pa_cons pe_int pa_nil))) pe_int (nomark _)))))
    (pss_one (ps_ret (pe_call (ok_law_row A) (hr.mono (by omega)) rfl A.law_row.m A.law_row.F.kp A.law_row.b .nil pass0 (pa_cons (pv 1) (pa_cons (pe_tup (pa_cons pe_str (pa_cons pe_never pa_nil))) pa_nil)))))
    pss_nil)
  (pss_cons (ps_set (i := 5) sc_law_tree.nd rfl (Or.inl rfl) (pe_call (ok_law_next A) (hr.mono (by omega)) rfl A.law_next.m A.law_next.F.kp A.law_next.b .nil pass0 (pa_cons (pv 0) (pa_cons (pv 3) pa_nil))))
  (pss_cons (ps_set (i := 6) sc_law_tree.nd rfl (Or.inl rfl) pe_never)
  (pss_cons (ps_set (i := 7) sc_law_tree.nd rfl (Or.inl rfl) pe_never)
  (pss_one (ps_ret (pe_call (ok_law_row A) (hr.mono (by omega)) rfl A.law_row.m A.law_row.F.kp A.law_row.b .nil pass0 (pa_cons (pv 1) (pa_cons (pe_tup (pa_cons (pe_call (ok_law_pick A) (hr.mono (by omega)) rfl A.law_pick.m A.law_pick.F.kp A.law_pick.b .nil pass0 (pa_cons (pv 0) (pa_cons (pe_tup (pa_cons pe_str (pa_cons pe_str (pa_cons pe_str (pa_cons pe_str pa_nil))))) pa_nil))) (pa_cons (pv 6) (pa_cons (pv 7) pa_nil)))) pa_nil)))))))))), ?_⟩
    walk_at "rd"
    refine iteB (fun e => ?_) (fun e => ?_)
    · walk_at "rd"
      exact ⟨⟨M, s, bk, b0, b1, bx, ns, letters, rfl, D, l0, l1, by omega, fun r ns' H' x => q r ns' H' ⟨x.pre, x.lt, by have := x.le; omega, x.D, x.a⟩⟩⟩
    · have hm0 : ¬ many ≤ 0 := of_decide_eq_false e
      omega
theorem tree_s (A : All K mg w) {m : Nat} (G : FnOk P w K mg base CX0 (m + 3) A.law_tree.f A.law_tree.fd ["stream", "book", "letters", "many", "boxed"] (spTree m)) : FnOk P w K mg base CX0 (m + 4) A.law_tree.f A.law_tree.fd ["stream", "book", "letters", "many", "boxed"] (spTree (m + 1)) := by
  refine A.law_tree.F.ok sc_law_tree (fun vs H Q E h => ?_) (fun cdv Ar outer s H vs Q E hr h => ?_)
  · obtain ⟨M, s, bk, b0, b1, bx, ns, letters, many, rfl, _⟩ := h.ex
    rfl
  · obtain ⟨M, s, bk, b0, b1, bx, ns, letters, many, rfl, D, l0, l1, m0, mm, m1, hl, q⟩ := h.ex
    refine ⟨_, (pss_cons (ps_if (pt_cmpR op_le (pv 3) pe_int (nomark _))
    (pss_one (ps_ret (pe_call (ok_law_leaf A) (hr.mono (by omega)) rfl A.law_leaf.m A.law_leaf.F.kp A.law_leaf.b .nil pass0 (pa_cons (pv 0) (pa_cons (pv 1) (pa_cons (pv 2) pa_nil))))))
    pss_nil)
  (pss_cut (ps_if (PW.pt (pw_and (pt_val (pv 4)) (pw_and1 (pt_cmpR op_lt (pe_call (ok_law_next A) (hr.mono (by omega)) rfl A.law_next.m A.law_next.F.kp A.law_next.b .nil pass0 (pa_cons (pv 0) (pa_cons pe_int pa_nil))) pe_int (nomark _)))))
    (pss_one (ps_ret (pe_call (ok_law_row A) (hr.mono (by omega)) rfl A.law_row.m A.law_row.F.kp A.law_row.b .nil pass0 (pa_cons (pv 1) (pa_cons (pe_tup (pa_cons pe_str (pa_cons (pe_call G (hr.mono (by omega)) rfl A.law_tree.m A.law_tree.F.kp A.law_tree.b .nil pass0 (pa_cons (pv 0) (pa_cons (pv 1) (pa_cons (pv 2) (pa_cons (pe_op op_sub (pv 3) pe_int) (pa_cons (pv 4) pa_nil)))))) pa_nil))) pa_nil)))))
    pss_nil)
  (pss_cons (ps_set (i := 5) sc_law_tree.nd rfl (Or.inl rfl) (pe_call (ok_law_next A) (hr.mono (by omega)) rfl A.law_next.m A.law_next.F.kp A.law_next.b .nil pass0 (pa_cons (pv 0) (pa_cons (pv 3) pa_nil))))
  (pss_cons (ps_set (i := 6) sc_law_tree.nd rfl (Or.inl rfl) (pe_call G (hr.mono (by omega)) rfl A.law_tree.m A.law_tree.F.kp A.law_tree.b .nil pass0 (pa_cons (pv 0) (pa_cons (pv 1) (pa_cons (pv 2) (pa_cons (pv 5) (pa_cons (pv 4) pa_nil)))))))
  (pss_cons (ps_set (i := 7) sc_law_tree.nd rfl (Or.inl rfl) (pe_call G (hr.mono (by omega)) rfl A.law_tree.m A.law_tree.F.kp A.law_tree.b .nil pass0 (pa_cons (pv 0) (pa_cons (pv 1) (pa_cons (pv 2) (pa_cons (pe_op op_sub (pe_op op_sub (pv 3) pe_int) (pv 5)) (pa_cons (pv 4) pa_nil)))))))
  (pss_one (ps_ret (pe_call (ok_law_row A) (hr.mono (by omega)) rfl A.law_row.m A.law_row.F.kp A.law_row.b .nil pass0 (pa_cons (pv 1) (pa_cons (pe_tup (pa_cons (pe_call (ok_law_pick A) (hr.mono (by omega)) rfl A.law_pick.m A.law_pick.F.kp A.law_pick.b .nil pass0 (pa_cons (pv 0) (pa_cons (pe_tup (pa_cons pe_str (pa_cons pe_str (pa_cons pe_str (pa_cons pe_str pa_nil))))) pa_nil))) (pa_cons (pv 6) (pa_cons (pv 7) pa_nil)))) pa_nil)))))))))), ?_⟩
    walk_at "rd"
    refine iteB (fun e => ?_) (fun e => ?_)
    · walk_at "rd"
      exact ⟨⟨M, s, bk, b0, b1, bx, ns, letters, rfl, D, l0, l1, by omega, fun r ns' H' x => q r ns' H' ⟨x.pre, x.lt, by have := x.le; omega, x.D, x.a⟩⟩⟩
    have hm0 : ¬ many ≤ 0 := of_decide_eq_false e
    walk_at "rd"
    refine ⟨fun σ' H' => σ' = [some (.ref s), some (.ref bk), some (.int letters), some (.int many), some (.bl bx), none, none, none] ∧ Dw M H' s bk b0 b1 bx ns ∧ Adv [s, b0, b1] H H', ?_, ?_⟩
    · cases bx with
      | false =>
        walk_at "rd"
        exact ⟨rfl, D, Adv.refl _ _⟩
      | true =>
        walk_at "rd"
        refine ⟨s, 5, M, rfl, D.str, by decide, by decide, fun d H1 d0 d1 hs1 a1 => ?_⟩
        have D1 := D.next a1 hs1
        walk_at "rd"
        refine iteB (fun e => ?_) (fun e => ?_)
        · walk_at "rd"
          refine ⟨⟨M, s, bk, b0, b1, true, ns, letters, many - 1, rfl, D1, l0, l1, by omega, by omega, by omega, by omega, fun j ns2 H2 x => ?_⟩⟩
          have xl := x.le
          have xj := x.lt
          walk_at "rd"
          refine ⟨by show 2 ≤ sizeLine; decide, fun p np => ?_⟩
          walk_at "rd"
          exact row_dn (.box j) x.D np (by simp only [Nd.ok, Bool.true_and, decide_eq_true_eq]; exact x.lt) (by omega) x.pre (by omega) ((a_s a1).trans x.a) q
        · walk_at "rd"
          exact ⟨rfl, D1, a_s a1⟩
    · rintro σ' H1 ⟨rfl, D1, a1⟩
      walk_at "rd"
      refine ⟨s, many, M, rfl, D1.str, by omega, by omega, fun f H2 f0 f1 hs2 a2 => ?_⟩
      have D2 := D1.next a2 hs2
      walk_at "rd"
      refine ⟨⟨M, s, bk, b0, b1, bx, ns, letters, f, rfl, D2, l0, l1, f0, by omega, by omega, by omega, fun j ns3 H3 x3 => ?_⟩⟩
      have xl3 := x3.le
      have xj3 := x3.lt
      have xg3 := x3.ge
      walk_at "rd"
      refine ⟨⟨M, s, bk, b0, b1, bx, ns3, letters, many - 1 - f, rfl, x3.D, l0, l1, by omega, by omega, by omega, by omega, fun k ns4 H4 x4 => ?_⟩⟩
      have xl4 := x4.le
      have xj4 := x4.lt
      have xg4 := x4.ge
      walk_at "rd"
      refine ⟨by show 4 ≤ sizeLine; decide, fun p np => ?_⟩
      have D5 := x4.D.same (Adv.new (o := .tup [.str "and", .str "or", .str "if", .str "if"]) np)
      refine ⟨s, p, [.str "and", .str "or", .str "if", .str "if"], M, rfl, D5.str, .inr upd_same, (x4.D.free np).2.1, by simp, by simp, fun x H6 hx hs6 a6 => ?_⟩
      have D6 := D5.next a6 hs6
      obtain ⟨o, rfl⟩ := op_pick hx
      walk_at "rd"
      refine ⟨by show 3 ≤ sizeLine; decide, fun t nt => ?_⟩
      walk_at "rd"
      exact row_dn (.bin o j k) D6 nt (by simp only [Nd.ok, Bool.and_eq_true, decide_eq_true_eq]; omega) (by omega) (x3.pre.trans x4.pre) (by omega) (((((a1.trans (a_s a2)).trans x3.a).trans x4.a).newT np).trans (a_s a6)) q
theorem ok_law_tree (A : All K mg w) : ∀ m : Nat, FnOk P w K mg base CX0 (m + 3) A.law_tree.f A.law_tree.fd ["stream", "book", "letters", "many", "boxed"] (spTree m)
  | 0 => tree_0 A
  | m + 1 => tree_s A (ok_law_tree A m)
end
end K10

set_option Elab.async false
set_option linter.all false
set_option maxRecDepth 100000
set_option maxHeartbeats 400000
namespace K10
open PySem PySem.Spec PyProof.Rows L2 LL
open C8 (pss_cut)
local macro_rules | `(tactic| walk_at "ne") => `(tactic| first | assumption | (apply Ne.symm; assumption) | exact ne_of_none (by walk_at "hp") (by assumption) | exact (ne_of_none (by walk_at "hp") (by assumption)).symm)
local macro_rules | `(tactic| walk_at "nm") => `(tactic| first | assumption | exact notin0 | exact notin1 (by walk_at "ne") | exact notin2 (by walk_at "ne") (by walk_at "ne"))
local macro_rules | `(tactic| walk_at "hp") => `(tactic| first | assumption | exact upd_same | (refine Eq.trans (upd_ne ?ne) ?hh; (case hh => walk_at "hp"); (case ne => walk_at "ne")) | (refine Adv.get' (by assumption) ?hh ?nn; (case hh => walk_at "hp"); (case nn => walk_at "nm")))
local macro_rules | `(tactic| walk_at "tp") => `(tactic| first | assumption | exact Tp.adv (by walk_at "tp") (by assumption) | exact Tp.adv (by walk_at "tp") (Adv.nil (by assumption)))
local macro_rules | `(tactic| walk_at "sq") => `(tactic| first | assumption | exact Tp.sq (by assumption) (by walk_at "tp") | exact SqT.of (by walk_at "hp"))
local macro_rules | `(tactic| walk_at "at") => `(tactic| first | exact atI_nat (j := 0) rfl | exact atI_nat (j := 1) rfl | exact atI_nat (j := 2) rfl | exact atI_nat (j := 3) rfl | exact atI_nat (by assumption) | (rw [Int.zero_add]; exact atI_nat (by assumption)))
local macro_rules | `(tactic| walk_at "bb") => `(tactic| first | assumption | decide | exact rfl)
local macro_rules | `(tactic| walk_at "ci") => `(tactic| first | omega | (dsimp only; omega) | (unfold CDiv; omega) | (unfold CMul; omega))
local macro_rules | `(tactic| walk_at "rd1") => `(tactic| first
  | with_reducible refine rd_c ?_
  | ((with_reducible refine' rd_var ?rh ?_); (case rh => exact rfl))
  | with_reducible refine rd_op ?_
  | with_reducible refine rd_seq ?_
  | with_reducible refine rd_asg ?_
  | with_reducible refine rd_gname ?_
  | with_reducible refine rd_ifS ?_
  | with_reducible refine rd_test ?_
  | with_reducible refine rd_tB ?_
  | with_reducible refine rd_blP ?_
  | ((with_reducible refine' iteY ?rh ?_); (case rh => walk_at "bb"))
  | ((with_reducible refine' iteN ?rh ?_); (case rh => walk_at "bb"))
  | with_reducible refine rd_ret ?_
  | with_reducible refine rd_nx ?_
  | ((with_reducible refine' rd_eq ?rh ?_); (case rh => exact rfl))
  | ((with_reducible refine' rd_ne ?rh ?_); (case rh => exact rfl))
  | with_reducible refine rd_add ?_
  | with_reducible refine rd_sub ?_
  | with_reducible refine rd_i0 ?_
  | with_reducible refine rd_and ?_
  | with_reducible refine rd_or ?_
  | with_reducible refine rd_not ?_
  | with_reducible refine rd_andV ?_
  | with_reducible refine rd_orV ?_
  | with_reducible refine rd_notV ?_
  | with_reducible refine rd_ifE ?_
  | with_reducible refine rd_isN ?_
  | with_reducible refine rd_notN ?_
  | with_reducible refine rd_cons ?_
  | with_reducible refine rd_nil ?_
  | with_reducible refine rd_tup ?_
  | with_reducible refine rd_lst ?_
  | with_reducible refine rd_call ?_
  | with_reducible refine rd_cb ?_
  | with_reducible refine rd_meth ?_
  | with_reducible refine rd_callS ?_
  | with_reducible refine rd_make ?_
  | with_reducible refine rd_rfl ?_
  | with_reducible refine rd_fld ?_
  | with_reducible refine rd_drop ?_
  | with_reducible refine rd_gsub ?_
  | with_reducible refine rd_gcons ?_
  | with_reducible refine rd_gnil ?_
  | with_reducible refine rd_par ?_
  | with_reducible refine rd_two ?_
  | with_reducible refine rd_par3 ?_
  | with_reducible refine rd_three ?_
  | with_reducible refine rd_int1 ?_
  | ((with_reducible refine' rd_i ?rh ?_); (case rh => walk_at "ci"))
  | with_reducible refine rd_part ?_
  | with_reducible refine rd_nopart ?_
  | with_reducible refine rd_int ?_
  | with_reducible refine rd_sl ?_
  | with_reducible refine rd_bm ?_
  | with_reducible refine rd_bm0 ?_
  | with_reducible refine rd_dgetT ?_
  | with_reducible refine rd_din ?_
  | with_reducible refine rd_dnin ?_
  | with_reducible refine rd_un ?_
  | ((with_reducible refine' rd_ixL ?rh ?re ?_); (case rh => walk_at "hp"); (case re => walk_at "at"))
  | ((with_reducible refine' rd_ixT ?rh ?re ?_); (case rh => walk_at "sq"); (case re => walk_at "at"))
  | ((with_reducible refine' rd_lenT ?rh ?_); (case rh => walk_at "sq"))
  | ((with_reducible refine' rd_tyL ?rh ?_); (case rh => walk_at "hp"))
  | ((with_reducible refine' rd_len ?rh ?_); (case rh => walk_at "hp"))
  | with_reducible refine rd_u ?_
  | ((with_reducible refine' rd_slL ?rh ?_); (case rh => walk_at "hp"))
  | with_reducible refine rd_for ?_
  | with_reducible refine rd_rng1 ?_
  | with_reducible refine rd_rng2 ?_
  | with_reducible refine rd_ints1 ?_
  | with_reducible refine rd_ints2 ?_
  | with_reducible refine rd_retN ?_)
local macro_rules | `(tactic| walk_at "rd") => `(tactic| repeat walk_at "rd1")
section
variable [KW]
variable {P : Program} {w : World} {K : PySem.W.Frag} {mg : Str → Option Value} {base : Heap}
/-! ### _law_heap, _law_formula -/
def spForm (m : Nat) : Sp := fun vs H Q _ => TreeP (fun many => 2 * many.toNat + 3) m vs H Q
/-- the words that are drawn -/
def wordOk (bx : Bool) (wd : Str) : Prop := (∃ o : Op3, wd = o.str) ∨ (wd = "box" ∧ bx = true)
theorem nV_snoc (rs : List Nat) (r : Nat) : nV rs ++ [V.int (r : Nat)] = nV (rs ++ [r]) := by unfold nV; rw [List.map_append]; rfl
theorem nV_len (rs : List Nat) : (nV rs).length = rs.length := by unfold nV; rw [List.length_map]
theorem nV_at {rs : List Nat} {i : Nat} (h : i < rs.length) : (nV rs)[i]? = some (.int (rs[i] : Nat)) := by unfold nV; rw [List.getElem?_map, List.getElem?_eq_getElem h]; rfl
theorem ok_law_heap (A : All K mg w) {m : Nat} : FnOk P w K mg base CX0 3 A.law_heap.f A.law_heap.fd ["stream", "book", "letters", "many", "boxed"] (spForm m) := by
  refine A.law_heap.F.ok sc_law_heap (fun vs H Q E h => ?_) (fun cdv Ar outer s H vs Q E hr h => ?_)
  · obtain ⟨M, s, bk, b0, b1, bx, ns, letters, many, rfl, _⟩ := h.ex
    rfl
  · obtain ⟨M, s, bk, b0, b1, bx, ns, letters, many, rfl, D, l0, l1, m0, mm, m1, hl, q⟩ := h.ex
    refine ⟨_, (pss_cons (ps_setLc (i := 6) (own := [("k", 5)]) (g := (gName 5)) rfl sc_law_heap.nd rfl rfl (sw_true rfl rfl rfl (by decide +kernel)) (pi_range1 rfl A.T.range (pa_cons pe_int pa_nil)) (blkOk_by (own := [("k", 5)]) (N := ["stream", "book", "letters", "many", "boxed", "k", "rows", "j", "other", "word"]) (sc := defScope s_law_heap) (by decide +kernel)) (fun _ _ _ _ _ => pg_name (i := 5) sc_law_heap.nd rfl (Or.inl rfl)) (fun _ _ _ _ _ => pts_nil) (fun _ _ _ _ _ => (pe_call (ok_law_leaf A) (hr.mono (by omega)) rfl A.law_leaf.m A.law_leaf.F.kp A.law_leaf.b .nil pass0 (pa_cons (pv 0) (pa_cons (pv 1) (pa_cons (pv 2) pa_nil))))))
  (pss_cons (ps_for PassesOwn.never rfl (pi_range1 rfl A.T.range (pa_cons (pv 3) pa_nil)) (pg_name (i := 5) sc_law_heap.nd rfl (Or.inl rfl))
    (pss_cons (ps_set (i := 7) sc_law_heap.nd rfl (Or.inl rfl) (pe_ix ix_list (pv 6) (pe_op op_sub (pe_op op_sub (pe_callB call_len_seq (by rfl) A.T.len PySem.boot_len (pa_cons (pv 6) pa_nil)) pe_int) (pe_call (ok_law_next A) (hr.mono (by omega)) rfl A.law_next.m A.law_next.F.kp A.law_next.b .nil pass0 (pa_cons (pv 0) (pa_cons pe_int pa_nil)))) (fun _ _ => rfl)))
  (pss_cons (ps_set (i := 8) sc_law_heap.nd rfl (Or.inl rfl) (pe_call (ok_law_pick A) (hr.mono (by omega)) rfl A.law_pick.m A.law_pick.F.kp A.law_pick.b .nil pass0 (pa_cons (pv 0) (pa_cons (pv 6) pa_nil))))
  (pss_cut (ps_set (i := 9) sc_law_heap.nd rfl (Or.inl rfl) (pe_call (ok_law_pick A) (hr.mono (by omega)) rfl A.law_pick.m A.law_pick.F.kp A.law_pick.b .nil pass0 (pa_cons (pv 0) (pa_cons (pe_ifExp (pt_val (pv 4)) (pe_tup (pa_cons pe_str (pa_cons pe_str (pa_cons pe_str (pa_cons pe_str (pa_cons pe_str (pa_cons pe_str pa_nil))))))) (pe_tup (pa_cons pe_str (pa_cons pe_str (pa_cons pe_str (pa_cons pe_str pa_nil)))))) pa_nil))))
  (pss_one (ps_if (pt_cmpR op_eq (pv 9) pe_str (nomark _))
    (pss_one (ps_expr (pe_bm PySem.F.plainAttrs_list PySem.F.slot_list_append PySem.F.type_list_append mt_append (pv 6) (pa_cons (pe_call (ok_law_row A) (hr.mono (by omega)) rfl A.law_row.m A.law_row.F.kp A.law_row.b .nil pass0 (pa_cons (pv 1) (pa_cons (pe_tup (pa_cons pe_str (pa_cons (pv 7) pa_nil))) pa_nil))) pa_nil))))
    (pss_one (ps_expr (pe_bm PySem.F.plainAttrs_list PySem.F.slot_list_append PySem.F.type_list_append mt_append (pv 6) (pa_cons (pe_call (ok_law_row A) (hr.mono (by omega)) rfl A.law_row.m A.law_row.F.kp A.law_row.b .nil pass0 (pa_cons (pv 1) (pa_cons (pe_ifExp (pt_cmpR op_eq (pe_call (ok_law_next A) (hr.mono (by omega)) rfl A.law_next.m A.law_next.F.kp A.law_next.b .nil pass0 (pa_cons (pv 0) (pa_cons pe_int pa_nil))) pe_int (nomark _)) (pe_tup (pa_cons (pv 9) (pa_cons (pv 8) (pa_cons (pv 7) pa_nil)))) (pe_tup (pa_cons (pv 9) (pa_cons (pv 7) (pa_cons (pv 8) pa_nil))))) pa_nil))) pa_nil))))))))))
  (pss_one (ps_ret (pe_ix ix_list (pv 6) (pe_op op_sub (pe_callB call_len_seq (by rfl) A.T.len PySem.boot_len (pa_cons (pv 6) pa_nil)) pe_int) (fun _ _ => rfl)))))), ?_⟩
    -- rows = [leaf, leaf, leaf]
    refine ⟨3, rfl, by decide, by decide, fun d nd => ?_⟩
    obtain ⟨dM, ds, dk, d0, d1⟩ := D.free nd
    have dn : d ∉ [s, b0, b1] := by simp [ds, d0, d1]
    refine lc_range (lo := 0) (n := (3 : Int).toNat) (fun i H' => ∃ (ns' : List Nd) (rs : List Nat), ns <+: ns' ∧ ns'.length ≤ ns.length + i ∧ Dw (d :: M) H' s bk b0 b1 bx ns' ∧ Adv [s, b0, b1] H H' ∧ H' d = some (.lst (nV rs)) ∧ rs.length = i ∧ ∀ r ∈ rs, r < ns'.length)
      ⟨ns, [], List.prefix_refl _, Nat.le_refl _, D.fresh nd, Adv.new nd, upd_same, rfl, by simp⟩ ?_ ?_
    · rintro i H' hi ⟨ns', rs, h1, h2, D1, a1, hd, hrl, hrs⟩
      have hi3 : i < 3 := hi
      have hg := h1.length_le
      refine ⟨rfl, yes_if ?_⟩
      refine iteY rfl ?_
      walk_at "rd"
      refine ⟨⟨d :: M, s, bk, b0, b1, bx, ns', letters, rfl, D1, l0, l1, by omega, fun r ns2 H2 x => ?_⟩⟩
      have hd2 := x.a _ _ dn hd
      have xl := x.le
      have xg := x.ge
      have xt := x.lt
      refine ⟨_, hd2, by rw [nV_len, sizeLine_eq]; omega, ns2, rs ++ [r], h1.trans x.pre, by omega, x.D.put (by simp) ds d0 d1, (a1.trans x.a).mut nd, by rw [upd_same, nV_snoc], by rw [List.length_append, List.length_singleton, hrl], ?_⟩
      intro y hy
      rcases List.mem_append.mp hy with hy | hy
      · have := hrs y hy; omega
      · rw [List.mem_singleton.mp hy]; exact xt
    · rintro H1 ⟨ns1, rs1, h1, h2, D1, a1, hd1, hrl1, hrs1⟩
      have h23 : (3 : Int).toNat = 3 := rfl
      -- for k in range(many)
      refine ⟨_, rfl, many, rfl, by omega, by omega, ?_⟩
      refine for_range (lo := 0) (n := many.toNat) (fun i σ' H' => ∃ (ns' : List Nd) (rs : List Nat) (x5 x7 x8 x9 : Option V), σ' = [some (.ref s), some (.ref bk), some (.int letters), some (.int many), some (.bl bx), x5, some (.ref d), x7, x8, x9] ∧ ns <+: ns' ∧ ns'.length ≤ ns.length + 3 + i ∧ Dw (d :: M) H' s bk b0 b1 bx ns' ∧ Adv [s, b0, b1] H H' ∧ H' d = some (.lst (nV rs)) ∧ rs.length = 3 + i ∧ ∀ r ∈ rs, r < ns'.length)
        ⟨ns1, rs1, none, none, none, none, rfl, h1, by omega, D1, a1, hd1, by omega, hrs1⟩ ?_ ?_
      · rintro i σ' H' hi ⟨ns', rs, x5, x7, x8, x9, rfl, h1, h2, D1, a1, hd, hrl, hrs⟩
        have hg := h1.length_le
        walk_at "rd"
        refine ⟨s, 3, d :: M, rfl, D1.str, by decide, by decide, fun e H2 e0 e1 hs2 a2 => ?_⟩
        have D2 := D1.next a2 hs2
        have hd2 := a2 _ _ (by simpa using ds) hd
        obtain ⟨t, ht⟩ : ∃ t : Nat, ((nV rs).length : Int) - 1 - e = (t : Int) := ⟨(((nV rs).length : Int) - 1 - e).toNat, by rw [nV_len]; omega⟩
        have htl : t < rs.length := by rw [nV_len] at ht; omega
        have hrt := hrs _ (List.getElem_mem htl)
        have hg2 := nV_at htl
        refine rd_i0 ?_
        rw [ht]
        walk_at "rd"
        refine ⟨s, d, nV rs, d :: M, rfl, hs2, .inl hd2, ds, by intro z; have := congrArg List.length z; rw [nV_len, List.length_nil] at this; omega, by rw [nV_len]; omega, fun ov H3 hov hs3 a3 => ?_⟩
        obtain ⟨o, ho, rfl⟩ := List.mem_map.mp hov
        have hol := hrs o ho
        have D3 := D2.next a3 hs3
        have hd3 := a3 _ _ (by simpa using ds) hd2
        have a13 : Adv [s, b0, b1] H H3 := (a1.trans (a_s a2)).trans (a_s a3)
        walk_at "rd"
        refine ⟨fun σ' H' => ∃ wd, σ' = [some (.ref s), some (.ref bk), some (.int letters), some (.int many), some (.bl bx), some (.int (0 + (i : Nat))), some (.ref d), some (.int (rs[t] : Nat)), some (.int (o : Nat)), some (.str wd)] ∧ wordOk bx wd ∧ Dw (d :: M) H' s bk b0 b1 bx ns' ∧ Adv [s, b0, b1] H H' ∧ H' d = some (.lst (nV rs)), ?_, ?_⟩
        · have word : ∀ (ws : List Str) (p : Addr) (Q' : VK), H3 p = none → ws ≠ [] → ws.length ≤ 10 → (∀ x ∈ ws, wordOk bx x) → (∀ wd H', wordOk bx wd → Dw (d :: M) H' s bk b0 b1 bx ns' → Adv [s, b0, b1] H H' → H' d = some (.lst (nV rs)) → Q' (.str wd) H') → spPick [.ref s, .ref p] (upd H3 p (.tup (ws.map V.str))) Q' E0 := by
            intro ws p Q' np hne hwl hok k
            have D4 := D3.same (Adv.new (o := .tup (ws.map V.str)) np)
            refine ⟨s, p, ws.map V.str, d :: M, rfl, D4.str, .inr upd_same, (D3.free np).2.1, by simpa using hne, by rw [List.length_map]; omega, fun x H5 hx hs5 a5 => ?_⟩
            obtain ⟨wd, hwd, rfl⟩ := List.mem_map.mp hx
            have ndp : d ≠ p := ne_of_none hd3 np
            exact k wd H5 (hok wd hwd) (D4.next a5 hs5) ((a13.newT np).trans (a_s a5)) (a5 _ _ (by simpa using ds) (by rw [upd_ne ndp]; exact hd3))
          cases bx with
          | true =>
            walk_at "rd"
            refine ⟨by show 6 ≤ sizeLine; decide, fun p np => ?_⟩
            walk_at "rd"
            exact word ["and", "or", "if", "if", "box", "box"] p _ np (by simp) (by simp) (by simp; exact ⟨.inl ⟨.and, rfl⟩, .inl ⟨.or, rfl⟩, .inl ⟨.imp, rfl⟩, .inr ⟨rfl, rfl⟩⟩) fun wd H' h1 h2 h3 h4 => ⟨wd, rfl, h1, h2, h3, h4⟩
          | false =>
            walk_at "rd"
            refine ⟨by show 4 ≤ sizeLine; decide, fun p np => ?_⟩
            walk_at "rd"
            exact word ["and", "or", "if", "if"] p _ np (by simp) (by simp) (by simp; exact ⟨.inl ⟨.and, rfl⟩, .inl ⟨.or, rfl⟩, .inl ⟨.imp, rfl⟩⟩) fun wd H' h1 h2 h3 h4 => ⟨wd, rfl, h1, h2, h3, h4⟩
        · rintro σ' H4 ⟨wd, rfl, hwd, D4, a4, hd4⟩
          have fin : ∀ {H5 : Hp} {n : Nd} {p : Addr} {σ' : L2.St} {Q' : L2.St → Hp → Prop}, Dw (d :: M) H5 s bk b0 b1 bx ns' → Adv [s, b0, b1] H H5 → H5 d = some (.lst (nV rs)) → H5 p = none → n.ok bx ns'.length = true →
              (∀ (ns2 : List Nd) (r : Nat) H6, ns <+: ns2 → ns2.length ≤ ns.length + 3 + (i + 1) → Dw (d :: M) (upd H6 d (.lst (nV (rs ++ [r])))) s bk b0 b1 bx ns2 → Adv [s, b0, b1] H (upd H6 d (.lst (nV (rs ++ [r])))) → (∀ y ∈ rs ++ [r], y < ns2.length) → Q' σ' (upd H6 d (.lst (nV (rs ++ [r]))))) →
              RowP [.ref bk, .ref p] (upd H5 p (.tup (n.keys.map kV))) fun x H1 => rAppend (.ref d) [x] H1 fun _ H2 => Q' σ' H2 := by
            intro H5 n p σ' Q' D5 a5 hd5 np hn k
            refine row_dn (c := 1) n D5 np hn (by omega) (List.prefix_refl _) (by omega) (Adv.refl _ _) fun r ns2 H6 x => ?_
            have hd6 := x.a _ _ dn hd5
            have xl := x.le
            have xg := x.ge
            have xt := x.lt
            refine rd_app hd6 (by rw [nV_len, sizeLine_eq]; omega) ?_
            rw [nV_snoc]
            exact k ns2 r H6 (h1.trans x.pre) (by omega) (x.D.put (by simp) ds d0 d1) ((a5.trans x.a).mut nd) fun y hy => by
              rcases List.mem_append.mp hy with hy | hy
              · have := hrs y hy; omega
              · rw [List.mem_singleton.mp hy]; exact xt
          rcases hwd with ⟨op, rfl⟩ | ⟨rfl, hbx⟩
          · walk_at "rd"
            refine iteN (by cases op <;> decide) ?_
            walk_at "rd"
            refine ⟨s, 2, d :: M, rfl, D4.str, by decide, by decide, fun e2 H5 g0 g1 hs5 a5 => ?_⟩
            have D5 := D4.next a5 hs5
            have hd5 := a5 _ _ (by simpa using ds) hd4
            walk_at "rd"
            refine iteB (fun _ => ?_) (fun _ => ?_)
            · walk_at "rd"
              refine ⟨by show 3 ≤ sizeLine; decide, fun p np => ?_⟩
              walk_at "rd"
              exact fin (n := .bin op o rs[t]) D5 (a4.trans (a_s a5)) hd5 np (by simp only [Nd.ok, Bool.and_eq_true, decide_eq_true_eq]; omega) fun ns2 r H6 k1 k2 k3 k4 k5 => ⟨ns2, rs ++ [r], _, _, _, _, rfl, k1, k2, k3, k4, upd_same, by rw [List.length_append, List.length_singleton]; omega, k5⟩
            · walk_at "rd"
              refine ⟨by show 3 ≤ sizeLine; decide, fun p np => ?_⟩
              walk_at "rd"
              exact fin (n := .bin op rs[t] o) D5 (a4.trans (a_s a5)) hd5 np (by simp only [Nd.ok, Bool.and_eq_true, decide_eq_true_eq]; omega) fun ns2 r H6 k1 k2 k3 k4 k5 => ⟨ns2, rs ++ [r], _, _, _, _, rfl, k1, k2, k3, k4, upd_same, by rw [List.length_append, List.length_singleton]; omega, k5⟩
          · walk_at "rd"
            refine ⟨by show 2 ≤ sizeLine; decide, fun p np => ?_⟩
            walk_at "rd"
            exact fin (n := .box rs[t]) D4 a4 hd4 np (by simp only [Nd.ok, Bool.and_eq_true, decide_eq_true_eq]; exact ⟨hbx, hrt⟩) fun ns2 r H6 k1 k2 k3 k4 k5 => ⟨ns2, rs ++ [r], _, _, _, _, rfl, k1, k2, k3, k4, upd_same, by rw [List.length_append, List.length_singleton]; omega, k5⟩
      · rintro σ' H' ⟨ns', rs, x5, x7, x8, x9, rfl, h1, h2, D1, a1, hd, hrl, hrs⟩
        obtain ⟨e, he⟩ : ∃ e : Nat, ((nV rs).length : Int) - 1 = (e : Int) := ⟨(nV rs).length - 1, by rw [nV_len]; omega⟩
        have hel : e < rs.length := by rw [nV_len] at he; omega
        have hg := nV_at hel
        walk_at "rd"
        rw [he]
        walk_at "rd"
        exact q rs[e] ns' H' ⟨h1, hrs _ (List.getElem_mem hel), by omega, D1.less (by simp +contextual) D.ms D.B.m0 D.B.m1, a1⟩
theorem ok_law_formula (A : All K mg w) (m : Nat) : FnOk P w K mg base CX0 (m + 4) A.law_formula.f A.law_formula.fd ["stream", "book", "letters", "many", "boxed"] (spForm m) := by
  refine A.law_formula.F.ok sc_law_formula (fun vs H Q E h => ?_) (fun cdv Ar outer s H vs Q E hr h => ?_)
  · obtain ⟨M, s, bk, b0, b1, bx, ns, letters, many, rfl, _⟩ := h.ex
    rfl
  · obtain ⟨M, s, bk, b0, b1, bx, ns, letters, many, rfl, D, l0, l1, m0, mm, m1, hl, q⟩ := h.ex
    refine ⟨_, (pss_cons (ps_if (pt_cmpR op_eq (pe_call (ok_law_next A) (hr.mono (by omega)) rfl A.law_next.m A.law_next.F.kp A.law_next.b .nil pass0 (pa_cons (pv 0) (pa_cons pe_int pa_nil))) pe_int (nomark _))
    (pss_one (ps_ret (pe_call (ok_law_tree A m) (hr.mono (by omega)) rfl A.law_tree.m A.law_tree.F.kp A.law_tree.b .nil pass0 (pa_cons (pv 0) (pa_cons (pv 1) (pa_cons (pv 2) (pa_cons (pv 3) (pa_cons (pv 4) pa_nil))))))))
    pss_nil)
  (pss_one (ps_ret (pe_call (ok_law_heap A (m := m)) (hr.mono (by omega)) rfl A.law_heap.m A.law_heap.F.kp A.law_heap.b .nil pass0 (pa_cons (pv 0) (pa_cons (pv 1) (pa_cons (pv 2) (pa_cons (pv 3) (pa_cons (pv 4) pa_nil))))))))), ?_⟩
    walk_at "rd"
    refine ⟨s, 2, M, rfl, D.str, by decide, by decide, fun d H1 d0 d1 hs1 a1 => ?_⟩
    have D1 := D.next a1 hs1
    walk_at "rd"
    refine iteB (fun e => ?_) (fun e => ?_)
    · walk_at "rd"
      exact ⟨⟨M, s, bk, b0, b1, bx, ns, letters, many, rfl, D1, l0, l1, m0, mm, m1, hl, fun r ns' H' x => q r ns' H' ⟨x.pre, x.lt, by have := x.le; omega, x.D, (a_s a1).trans x.a⟩⟩⟩
    · walk_at "rd"
      exact ⟨⟨M, s, bk, b0, b1, bx, ns, letters, many, rfl, D1, l0, l1, m0, mm, m1, hl, fun r ns' H' x => q r ns' H' ⟨x.pre, x.lt, x.le, x.D, (a_s a1).trans x.a⟩⟩⟩
end
end K10

set_option Elab.async false
set_option linter.all false
set_option maxRecDepth 100000
set_option maxHeartbeats 400000
namespace K10
open PySem PySem.Spec PyProof.Rows L2 LL
open C8 (pss_cut)
local macro_rules | `(tactic| walk_at "ne") => `(tactic| first | assumption | (apply Ne.symm; assumption) | exact ne_of_none (by walk_at "hp") (by assumption) | exact (ne_of_none (by walk_at "hp") (by assumption)).symm)
local macro_rules | `(tactic| walk_at "nm") => `(tactic| first | assumption | exact notin0 | exact notin1 (by walk_at "ne") | exact notin2 (by walk_at "ne") (by walk_at "ne"))
local macro_rules | `(tactic| walk_at "hp") => `(tactic| first | assumption | exact upd_same | (refine Eq.trans (upd_ne ?ne) ?hh; (case hh => walk_at "hp"); (case ne => walk_at "ne")) | (refine Adv.get' (by assumption) ?hh ?nn; (case hh => walk_at "hp"); (case nn => walk_at "nm")))
local macro_rules | `(tactic| walk_at "tp") => `(tactic| first | assumption | exact Tp.adv (by walk_at "tp") (by assumption) | exact Tp.adv (by walk_at "tp") (Adv.nil (by assumption)))
local macro_rules | `(tactic| walk_at "sq") => `(tactic| first | assumption | exact Tp.sq (by assumption) (by walk_at "tp") | exact SqT.of (by walk_at "hp"))
local macro_rules | `(tactic| walk_at "at") => `(tactic| first | exact atI_nat (j := 0) rfl | exact atI_nat (j := 1) rfl | exact atI_nat (j := 2) rfl | exact atI_nat (j := 3) rfl | exact atI_nat (by assumption) | (rw [Int.zero_add]; exact atI_nat (by assumption)))
local macro_rules | `(tactic| walk_at "bb") => `(tactic| first | assumption | decide | exact rfl)
local macro_rules | `(tactic| walk_at "ci") => `(tactic| first | omega | (dsimp only; omega) | (unfold CDiv; omega) | (unfold CMul; omega))
local macro_rules | `(tactic| walk_at "rd1") => `(tactic| first
  | with_reducible refine rd_c ?_
  | ((with_reducible refine' rd_var ?rh ?_); (case rh => exact rfl))
  | with_reducible refine rd_op ?_
  | with_reducible refine rd_seq ?_
  | with_reducible refine rd_asg ?_
  | with_reducible refine rd_gname ?_
  | with_reducible refine rd_ifS ?_
  | with_reducible refine rd_test ?_
  | with_reducible refine rd_tB ?_
  | with_reducible refine rd_blP ?_
  | ((with_reducible refine' iteY ?rh ?_); (case rh => walk_at "bb"))
  | ((with_reducible refine' iteN ?rh ?_); (case rh => walk_at "bb"))
  | with_reducible refine rd_ret ?_
  | with_reducible refine rd_nx ?_
  | ((with_reducible refine' rd_eq ?rh ?_); (case rh => exact rfl))
  | ((with_reducible refine' rd_ne ?rh ?_); (case rh => exact rfl))
  | with_reducible refine rd_add ?_
  | with_reducible refine rd_sub ?_
  | with_reducible refine rd_i0 ?_
  | with_reducible refine rd_and ?_
  | with_reducible refine rd_or ?_
  | with_reducible refine rd_not ?_
  | with_reducible refine rd_andV ?_
  | with_reducible refine rd_orV ?_
  | with_reducible refine rd_notV ?_
  | with_reducible refine rd_ifE ?_
  | with_reducible refine rd_isN ?_
  | with_reducible refine rd_notN ?_
  | with_reducible refine rd_cons ?_
  | with_reducible refine rd_nil ?_
  | with_reducible refine rd_tup ?_
  | with_reducible refine rd_lst ?_
  | with_reducible refine rd_call ?_
  | with_reducible refine rd_cb ?_
  | with_reducible refine rd_meth ?_
  | with_reducible refine rd_callS ?_
  | with_reducible refine rd_make ?_
  | with_reducible refine rd_rfl ?_
  | with_reducible refine rd_fld ?_
  | with_reducible refine rd_drop ?_
  | with_reducible refine rd_gsub ?_
  | with_reducible refine rd_gcons ?_
  | with_reducible refine rd_gnil ?_
  | with_reducible refine rd_par ?_
  | with_reducible refine rd_two ?_
  | with_reducible refine rd_par3 ?_
  | with_reducible refine rd_three ?_
  | with_reducible refine rd_int1 ?_
  | ((with_reducible refine' rd_i ?rh ?_); (case rh => walk_at "ci"))
  | with_reducible refine rd_part ?_
  | with_reducible refine rd_nopart ?_
  | with_reducible refine rd_int ?_
  | with_reducible refine rd_sl ?_
  | with_reducible refine rd_bm ?_
  | with_reducible refine rd_bm0 ?_
  | with_reducible refine rd_dgetT ?_
  | with_reducible refine rd_din ?_
  | with_reducible refine rd_dnin ?_
  | with_reducible refine rd_un ?_
  | ((with_reducible refine' rd_ixL ?rh ?re ?_); (case rh => walk_at "hp"); (case re => walk_at "at"))
  | ((with_reducible refine' rd_ixT ?rh ?re ?_); (case rh => walk_at "sq"); (case re => walk_at "at"))
  | ((with_reducible refine' rd_lenT ?rh ?_); (case rh => walk_at "sq"))
  | ((with_reducible refine' rd_tyL ?rh ?_); (case rh => walk_at "hp"))
  | ((with_reducible refine' rd_len ?rh ?_); (case rh => walk_at "hp"))
  | with_reducible refine rd_u ?_
  | ((with_reducible refine' rd_slL ?rh ?_); (case rh => walk_at "hp"))
  | with_reducible refine rd_for ?_
  | with_reducible refine rd_rng1 ?_
  | with_reducible refine rd_rng2 ?_
  | with_reducible refine rd_ints1 ?_
  | with_reducible refine rd_ints2 ?_
  | with_reducible refine rd_retN ?_)
local macro_rules | `(tactic| walk_at "rd") => `(tactic| repeat walk_at "rd1")
section
variable [KW]
variable {P : Program} {w : World} {K : PySem.W.Frag} {mg : Str → Option Value} {base : Heap}
/-! ### is_tuple_of -/
def tupN (n : Int) : PyData → Bool
  | .tuple ds => decide ((ds.length : Int) = n)
  | _ => false
theorem not_tup {d : PyData} (h : ¬ ∃ ds, d = .tuple ds) : kitD d "tuple" = false := by
  cases d with
  | tuple ds => exact absurd ⟨ds, rfl⟩ h
  | _ => simp [kitD, tyN]
def spIsTupleOf : Sp := fun vs H Q _ => ∃ (v : V) (d : PyData) (n : Int), vs = [v, .int n] ∧ Is [] H d v ∧ Q (.bl (tupN n d)) H
theorem ok_is_tuple_of (A : All K mg w) : FnOk P w K mg base CX0 1 A.is_tuple_of.f A.is_tuple_of.fd ["value", "many"] spIsTupleOf := by
  refine A.is_tuple_of.F.ok sc_is_tuple_of (fun vs H Q E h => ?_) (fun cdv Ar outer s H vs Q E hr h => ?_)
  · obtain ⟨v, d, n, rfl, _⟩ := h
    rfl
  · obtain ⟨v, d, n, rfl, hv, q⟩ := h
    refine ⟨_, (pss_one (ps_ret (pe_and (pe_callB call_isi (by rfl) A.T.isinstance (by decide +kernel) (pa_cons (pv 0) (pa_cons (pe_bltn (v := .ty "tuple") (by rfl) A.T.tuple (by decide +kernel) rfl) pa_nil))) (pe_one (pe_cmpR op_eq (pe_callB call_len_seq (by rfl) A.T.len PySem.boot_len (pa_cons (pv 0) pa_nil)) (pv 1) (nomark _)))))), ?_⟩
    refine ⟨_, rfl, _, _, _, _, _, rfl, .ty _, hv.ty A.W, k_tuple d, _, rfl, ?_⟩
    by_cases ht : ∃ ds, d = .tuple ds
    · obtain ⟨ds, rfl⟩ := ht
      obtain ⟨a, vs, rfl, htp, hs⟩ := hv.tupE
      refine iteY (by simp [kitD, tyN]) ?_
      have sq := htp.sq A.W
      walk_at "rd"
      have e : Q (.bl (decide (V.int (vs.length : Nat) = V.int n))) H := by
        rw [hs.len]
        have e2 : decide (V.int (ds.length : Nat) = V.int n) = decide ((ds.length : Int) = n) := by
          by_cases c : (ds.length : Int) = n
          · rw [c]; simp
          · rw [decide_eq_false c]
            exact decide_eq_false fun z => c (V.int.inj z)
        rw [e2]
        exact q
      exact e
    · refine iteN (not_tup ht) ?_
      cases d with
      | tuple ds => exact absurd ⟨ds, rfl⟩ ht
      | _ => exact q
/-! ### are_any_rows, is_rising, are_rows -/
def anyB (n : Int) : PyData → Bool
  | .tuple ds => ds.all (isNum 0 (n - 1))
  | _ => false
def tupZ (d : PyData) : Prop := ∀ ds, d = .tuple ds → ds.length ≤ 1000000
def spAnyRows : Sp := fun vs H Q _ => ∃ (v : V) (d : PyData) (n : Int), vs = [v, .int n] ∧ Is [] H d v ∧ tupZ d ∧ ∀ H', Adv [] H H' → Q (.bl (anyB n d)) H'
theorem ok_are_any_rows (A : All K mg w) : FnOk P w K mg base CX0 3 A.are_any_rows.f A.are_any_rows.fd ["value", "count"] spAnyRows := by
  refine A.are_any_rows.F.ok sc_are_any_rows (fun vs H Q E h => ?_) (fun cdv Ar outer s H vs Q E hr h => ?_)
  · obtain ⟨v, d, n, rfl, _⟩ := h
    rfl
  · obtain ⟨v, d, n, rfl, hv, hz, q⟩ := h
    refine ⟨_, (pss_one (ps_ret (pe_and (pe_callB call_isi (by rfl) A.T.isinstance (by decide +kernel) (pa_cons (pv 0) (pa_cons (pe_bltn (v := .ty "tuple") (by rfl) A.T.tuple (by decide +kernel) rfl) pa_nil))) (pe_one (pe_callB (cr_all rfl) (by rfl) A.T.all (by decide +kernel) (pa_cons (pe_lc (own := [("item", 2)]) (g := (gName 2)) rfl sc_are_any_rows.nd (pi_tup (pv 0)) (blkOk_by (own := [("item", 2)]) (N := ["value", "count", "item"]) (sc := defScope s_are_any_rows) (by decide +kernel)) (fun _ _ _ _ _ => pg_name (i := 2) sc_are_any_rows.nd rfl (Or.inl rfl)) (fun _ _ _ _ _ => pts_nil) (fun _ _ _ _ _ => (pe_call (ok_is_between A) (hr.mono (by omega)) rfl A.is_between.m A.is_between.F.kp A.is_between.b .nil pass0 (pa_cons (pv 2) (pa_cons pe_int (pa_cons (pe_op op_sub (pv 1) pe_int) pa_nil)))))) pa_nil)))))), ?_⟩
    refine ⟨_, rfl, _, _, _, _, _, rfl, .ty _, hv.ty A.W, k_tuple d, _, rfl, ?_⟩
    by_cases ht : ∃ ds, d = .tuple ds
    · obtain ⟨ds, rfl⟩ := ht
      have hz := hz ds rfl
      obtain ⟨a, vs, rfl, htp, hs⟩ := hv.tupE
      have hl := hs.len
      refine iteY (by simp [kitD, tyN]) ?_
      refine ⟨_, rfl, a, rfl, ⟨_, htp.sq A.W⟩, fun D nD => ?_⟩
      refine lc_mapT (K := K) (a := a) (xs := vs) (fun i => V.bl (isNum 0 (n - 1) (ds.getD i .none))) nD (htp.sq A.W) (by omega) ?_ ?_
      · intro i x H' acc R hx aH hD k
        obtain ⟨dx, hdx, hisx⟩ := hs.getV hx
        have ed : ds.getD i .none = dx := by rw [List.getD_eq_getElem?_getD, hdx]; rfl
        refine ⟨rfl, x, rfl, _, rfl, n, 1, rfl, rfl, x, dx, 0, n - 1, rfl, (hisx.adv aH), ?_⟩
        have k' := k H' hD aH
        rw [ed] at k'
        exact k'
      · intro H' aH hD
        refine ⟨D, ds.map (isNum 0 (n - 1)), rfl, .inl (.inl ?_), ?_⟩
        · rw [hD, hl, range_map_list]
        · rw [all_id _ (isNum 0 (n - 1)) ds rfl]
          exact q H' aH
    · refine iteN (not_tup ht) ?_
      have q' := q H (Adv.refl _ _)
      cases d with
      | tuple ds => exact absurd ⟨ds, rfl⟩ ht
      | _ => exact q'
/-! ### is_rising -/
/-- x < y, ints or pairs -/
def LtV (K : PySem.W.Frag) (H : Hp) (x y : V) : Prop := (∃ i j : Int, x = .int i ∧ y = .int j ∧ i < j) ∨
  ∃ (a b : Addr) (v w v' w' : Int), x = .ref a ∧ y = .ref b ∧ SqT K H a [.int v, .int w] ∧ SqT K H b [.int v', .int w'] ∧ (v < v' ∨ (v = v' ∧ w < w'))
theorem LtV.go {H : Hp} {x y : V} {Q : VK} (h : LtV K H x y) (q : Q (.bl true) H) : rLtA K x y H Q := by
  rcases h with ⟨i, j, rfl, rfl, h⟩ | ⟨a, b, v, w, v', w', rfl, rfl, ha, hb, h⟩
  · exact .inl ⟨i, j, rfl, rfl, by show Q (.bl (decide (i < j))) H; rw [decide_eq_true h]; exact q⟩
  · refine .inr ⟨a, b, [v, w], [v', w'], rfl, rfl, ha, hb, ?_⟩
    have e : Ob.lexAt (fun j => decide (([v, w] : List Int).getD j 0 = ([v', w'] : List Int).getD j 0)) (fun j => decide (([v, w] : List Int).getD j 0 < ([v', w'] : List Int).getD j 0)) (decide (([v, w] : List Int).length < ([v', w'] : List Int).length)) 0 (min ([v, w] : List Int).length ([v', w'] : List Int).length) = true := by
      show Ob.lexAt _ _ _ 0 2 = true
      rw [Ob.lexAt_succ, Ob.lexAt_succ, Ob.lexAt_zero]
      show (if decide (v = v') = true then (if decide (w = w') = true then decide (2 < 2) else decide (w < w')) else decide (v < v')) = true
      rcases h with h | ⟨h1, h2⟩
      · rw [if_neg (by rw [decide_eq_true_eq]; omega)]
        exact decide_eq_true h
      · rw [if_pos (decide_eq_true h1), if_neg (by rw [decide_eq_true_eq]; omega)]
        exact decide_eq_true h2
    rw [e]
    exact q
theorem LtV.adv {H H' : Hp} {x y : V} (h : LtV K H x y) (a : Adv [] H H') : LtV K H' x y := by
  rcases h with h | ⟨p, q, v, w, v', w', h1, h2, ha, hb, h⟩
  · exact .inl h
  · exact .inr ⟨p, q, v, w, v', w', h1, h2, SqT.adv a ha, SqT.adv a hb, h⟩
def spRise (K : PySem.W.Frag) : Sp := fun vs H Q _ => ∃ (a : Addr) (xs : List V), vs = [.ref a] ∧ H a = some (.lst xs) ∧ xs.length ≤ 1000000 ∧ (∀ i x y, xs[i]? = some x → xs[i + 1]? = some y → LtV K H x y) ∧ ∀ H', Adv [] H H' → Q (.bl true) H'
theorem all_true {α : Type} (l : List α) : (l.map fun _ => true).all id = true := by
  rw [List.all_map]
  exact List.all_eq_true.mpr fun _ _ => rfl
theorem ok_is_rising (A : All K mg w) : FnOk P w K mg base CX0 1 A.is_rising.f A.is_rising.fd ["values"] (spRise K) := by
  refine A.is_rising.F.ok sc_is_rising (fun vs H Q E h => ?_) (fun cdv Ar outer s H vs Q E hr h => ?_)
  · obtain ⟨a, xs, rfl, _⟩ := h
    rfl
  · obtain ⟨a, xs, rfl, ha, hz, hlt, q⟩ := h
    refine ⟨_, (pss_one (ps_ret (pe_callB (cr_all rfl) (by rfl) A.T.all (by decide +kernel) (pa_cons (pe_lc (own := [("k", 1)]) (g := (gName 1)) rfl sc_is_rising.nd (pi_range2 rfl A.T.range (pa_cons pe_int (pa_cons (pe_callB call_len_seq (by rfl) A.T.len PySem.boot_len (pa_cons (pv 0) pa_nil)) pa_nil))) (blkOk_by (own := [("k", 1)]) (N := ["values", "k"]) (sc := defScope s_is_rising) (by decide +kernel)) (fun _ _ _ _ _ => pg_name (i := 1) sc_is_rising.nd rfl (Or.inl rfl)) (fun _ _ _ _ _ => pts_nil) (fun _ _ _ _ _ => (pe_cmpR (op_ltA K rfl (lt_un hr)) (pe_ix (ix_anyK K rfl) (pv 0) (pe_op op_sub (pv 1) pe_int) (fun _ _ => rfl)) (pe_ix (ix_anyK K rfl) (pv 0) (pv 1) (fun _ _ => rfl)) (nomark _)))) pa_nil)))), ?_⟩
    refine ⟨_, rfl, a, _, rfl, .inl (SqL.of ha), 1, _, rfl, ⟨by decide, by decide, by omega, by omega⟩, fun D nD => ?_⟩
    have hn : ((xs.length : Nat) - 1 : Int).toNat = xs.length - 1 := by omega
    rw [hn]
    refine lc_mapRl (fun i => V.bl true) nD (by omega) ?_ ?_
    · intro i H' acc R hi aH hD k
      have sq' := SqL.of (K := K) (aH.same _ _ ha)
      have h1 : xs[i]? = some xs[i] := List.getElem?_eq_getElem (by omega)
      have h2 : xs[i + 1]? = some xs[i + 1] := List.getElem?_eq_getElem (by omega)
      have at_ : ∀ (j : Nat) (i : Int) (v : V), xs[j]? = some v → i = (j : Nat) → atI xs i = some v := fun j i v hj e => by rw [e]; exact atI_nat hj
      refine ⟨rfl, _, rfl, _, rfl, 1 + (i : Int), 1, rfl, rfl, .inl ⟨a, _, _, _, rfl, rfl, sq', at_ i _ _ h1 (by omega), _, rfl, _, rfl, .inl ⟨a, _, _, _, rfl, rfl, sq', at_ (i + 1) _ _ h2 (by omega), ?_⟩⟩⟩
      exact ((hlt i _ _ h1 h2).adv aH).go (k H' hD aH)
    · intro H' aH hD
      refine ⟨D, (List.range (xs.length - 1)).map fun _ => true, rfl, .inl (.inl ?_), ?_⟩
      · rw [hD, List.map_map]
        rfl
      · rw [all_true]
        exact q H' aH
theorem nVl_ln (rows : List Nat) : (nVl rows).length = rows.length := by unfold nVl; rw [List.length_map]
theorem nVl_ltV {H : Hp} {rows : List Nat} (h : rows.Pairwise (· < ·)) : ∀ (i : Nat) (x y : V), (nVl rows)[i]? = some x → (nVl rows)[i + 1]? = some y → LtV K H x y := fun i x y hx hy => by
  obtain ⟨j, hj, rfl⟩ := nVl_gt hx
  obtain ⟨k, hk, rfl⟩ := nVl_gt hy
  obtain ⟨h1, e1⟩ := List.getElem?_eq_some_iff.mp hj
  obtain ⟨h2, e2⟩ := List.getElem?_eq_some_iff.mp hk
  have := List.pairwise_iff_getElem.mp h i (i + 1) h1 h2 (by omega)
  rw [e1, e2] at this
  exact .inl ⟨j, k, rfl, rfl, by omega⟩
/-! ### are_arcs -/
def arcsD (arcs : List (Nat × Nat)) : PyData := .list (arcs.map pD)
theorem pair_is {M : List Addr} {H : Hp} {a : Nat × Nat} {v : V} (x : Is M H (pD a) v) : ∃ t, v = .ref t ∧ Tp M H t [.int (a.1 : Nat), .int (a.2 : Nat)] := by
  obtain ⟨t, v1, v2, rfl, ht, h1, h2⟩ := Is.pair x
  cases h1.intE
  cases h2.intE
  exact ⟨t, rfl, ht⟩
theorem prs_at {M : List Addr} {H : Hp} {arcs : List (Nat × Nat)} {prs : List V} (x : IsDs M H (arcs.map pD) prs) {i : Nat} {v : V} (h : prs[i]? = some v) : ∃ a t, arcs[i]? = some a ∧ v = .ref t ∧ Tp M H t [.int (a.1 : Nat), .int (a.2 : Nat)] := by
  obtain ⟨d, hd, hi⟩ := x.getV h
  rw [List.getElem?_map, Option.map_eq_some_iff] at hd
  obtain ⟨a, ha, rfl⟩ := hd
  obtain ⟨t, e, ht⟩ := pair_is hi
  exact ⟨a, t, ha, e, ht⟩
structure ArcP (vs : List V) (H : Hp) (Q : VK) : Prop where
  ex : ∃ (v : V) (arcs : List (Nat × Nat)) (n : Nat), vs = [v, .int (n : Nat)] ∧ Is [] H (arcsD arcs) v ∧ arcs.length ≤ 100000 ∧ arcs.Pairwise ltP ∧ (∀ a ∈ arcs, a.1 < n ∧ a.2 < n) ∧ ∀ H', Adv [] H H' → Q (.bl true) H'
def spArcs : Sp := fun vs H Q _ => ArcP vs H Q
theorem pD_any {n : Nat} {a : Nat × Nat} (h : a.1 < n ∧ a.2 < n) : anyB (n : Int) (pD a) = true := by
  show ([PyData.int (a.1 : Nat), .int (a.2 : Nat)].all (isNum 0 ((n : Int) - 1))) = true
  have f : ∀ k : Nat, k < n → isNum 0 ((n : Int) - 1) (.int (k : Nat)) = true := fun k hk => by
    show (decide (0 ≤ (k : Int)) && decide ((k : Int) ≤ (n : Int) - 1)) = true
    rw [decide_eq_true (by omega), decide_eq_true (by omega)]; rfl
  rw [List.all_cons, List.all_cons, f _ h.1, f _ h.2]
  rfl
theorem ok_are_arcs (A : All K mg w) : FnOk P w K mg base CX0 5 A.are_arcs.f A.are_arcs.fd ["value", "worlds"] spArcs := by
  refine A.are_arcs.F.ok sc_are_arcs (fun vs H Q E h => ?_) (fun cdv Ar outer s H vs Q E hr h => ?_)
  · obtain ⟨v, arcs, n, rfl, _⟩ := h.ex
    rfl
  · obtain ⟨v, arcs, n, rfl, hv, hz, hp, hb, q⟩ := h.ex
    refine ⟨_, (pss_cons (ps_if (pt_not (pt_val (pe_callB call_isi (by rfl) A.T.isinstance (by decide +kernel) (pa_cons (pv 0) (pa_cons (pe_bltn (v := .ty "list") (by rfl) A.T.list (by decide +kernel) rfl) pa_nil)))))
    (pss_one (ps_ret pe_bl))
    pss_nil)
  (pss_cons (ps_if (pt_not (pt_val (pe_callB (cr_all rfl) (by rfl) A.T.all (by decide +kernel) (pa_cons (pe_lc (own := [("arc", 2)]) (g := (gName 2)) rfl sc_are_arcs.nd (pi_list (pv 0)) (blkOk_by (own := [("arc", 2)]) (N := ["value", "worlds", "arc"]) (sc := defScope s_are_arcs) (by decide +kernel)) (fun _ _ _ _ _ => pg_name (i := 2) sc_are_arcs.nd rfl (Or.inl rfl)) (fun _ _ _ _ _ => pts_nil) (fun _ _ _ _ _ => (pe_and (pe_call (ok_is_tuple_of A) (hr.mono (by omega)) rfl A.is_tuple_of.m A.is_tuple_of.F.kp A.is_tuple_of.b .nil pass0 (pa_cons (pv 2) (pa_cons pe_int pa_nil))) (pe_one (pe_call (ok_are_any_rows A) (hr.mono (by omega)) rfl A.are_any_rows.m A.are_any_rows.F.kp A.are_any_rows.b .nil pass0 (pa_cons (pv 2) (pa_cons (pv 1) pa_nil))))))) pa_nil))))
    (pss_one (ps_ret pe_bl))
    pss_nil)
  (pss_one (ps_ret (pe_call (ok_is_rising A) (hr.mono (by omega)) rfl A.is_rising.m A.is_rising.F.kp A.is_rising.b .nil pass0 (pa_cons (pv 0) pa_nil)))))), ?_⟩
    obtain ⟨l, prs, rfl, _, hl, hs⟩ := hv.lstE
    have hlen := hs.len
    rw [List.length_map] at hlen
    walk_at "rd"
    refine ⟨_, _, _, _, _, rfl, .ty _, hv.ty A.W, k_list (arcsD arcs), _, rfl, ?_⟩
    walk_at "rd"
    refine ⟨_, rfl, l, rfl, ⟨_, SqL.of hl⟩, fun D nD => ?_⟩
    refine lc_mapL (K := K) (a := l) (xs := prs) (fun i => V.bl true) nD (SqL.of hl) (by omega) ?_ ?_
    · intro i x H' acc R hx aH hD k
      obtain ⟨a, t, ha, rfl, ht⟩ := prs_at hs hx
      have hab := hb a (List.mem_of_getElem? ha)
      have it : Is [] H' (pD a) (.ref t) := (Is.tp ht (.cons .int (.cons .int .nil)) : Is [] H (pD a) (.ref t)).adv aH
      refine ⟨rfl, ?_⟩
      walk_at "rd"
      refine ⟨.ref t, pD a, 2, rfl, it, ?_⟩
      refine ⟨_, rfl, iteY (show tupN 2 (pD a) = true from rfl) ?_⟩
      walk_at "rd"
      refine ⟨.ref t, pD a, n, rfl, it, fun ds e => ?_, fun H4 a4 => ?_⟩
      · unfold pD at e
        injection e with e
        rw [← e]
        show 2 ≤ 1000000
        decide
      · rw [pD_any hab]
        exact k H4 (a4.same _ _ hD) (aH.trans a4)
    · intro H1 a1 hD
      refine ⟨D, (List.range prs.length).map fun _ => true, rfl, .inl (.inl ?_), ?_⟩
      · rw [hD, List.map_map]
        rfl
      rw [all_true]
      walk_at "rd"
      refine ⟨l, prs, rfl, a1.same _ _ hl, by omega, fun i x y hx hy => ?_, fun H2 a2 => q H2 (a1.trans a2)⟩
      obtain ⟨a, t, ha, rfl, ht⟩ := prs_at (hs.adv a1) hx
      obtain ⟨b, u, hb2, rfl, hu⟩ := prs_at (hs.adv a1) hy
      obtain ⟨k1, e1⟩ := List.getElem?_eq_some_iff.mp ha
      obtain ⟨k2, e2⟩ := List.getElem?_eq_some_iff.mp hb2
      have := List.pairwise_iff_getElem.mp hp i (i + 1) k1 k2 (by omega)
      rw [e1, e2] at this
      refine .inr ⟨t, u, _, _, _, _, rfl, rfl, ht.sq A.W, hu.sq A.W, ?_⟩
      rcases this with h | ⟨h1, h2⟩
      · exact .inl (by omega)
      · exact .inr ⟨by omega, by omega⟩
end
end K10

set_option Elab.async false
set_option linter.all false
set_option maxRecDepth 100000
set_option maxHeartbeats 400000
namespace K10
open PySem PySem.Spec PyProof.Rows L2 LL
open C8 (pss_cut)
local macro_rules | `(tactic| walk_at "ne") => `(tactic| first | assumption | (apply Ne.symm; assumption) | exact ne_of_none (by walk_at "hp") (by assumption) | exact (ne_of_none (by walk_at "hp") (by assumption)).symm)
local macro_rules | `(tactic| walk_at "nm") => `(tactic| first | assumption | exact notin0 | exact notin1 (by walk_at "ne") | exact notin2 (by walk_at "ne") (by walk_at "ne"))
local macro_rules | `(tactic| walk_at "hp") => `(tactic| first | assumption | exact upd_same | (refine Eq.trans (upd_ne ?ne) ?hh; (case hh => walk_at "hp"); (case ne => walk_at "ne")) | (refine Adv.get' (by assumption) ?hh ?nn; (case hh => walk_at "hp"); (case nn => walk_at "nm")))
local macro_rules | `(tactic| walk_at "tp") => `(tactic| first | assumption | exact Tp.adv (by walk_at "tp") (by assumption) | exact Tp.adv (by walk_at "tp") (Adv.nil (by assumption)))
local macro_rules | `(tactic| walk_at "sq") => `(tactic| first | assumption | exact Tp.sq (by assumption) (by walk_at "tp") | exact SqT.of (by walk_at "hp"))
local macro_rules | `(tactic| walk_at "at") => `(tactic| first | exact atI_nat (j := 0) rfl | exact atI_nat (j := 1) rfl | exact atI_nat (j := 2) rfl | exact atI_nat (j := 3) rfl | exact atI_nat (by assumption) | (rw [Int.zero_add]; exact atI_nat (by assumption)))
local macro_rules | `(tactic| walk_at "bb") => `(tactic| first | assumption | decide | exact rfl)
local macro_rules | `(tactic| walk_at "ci") => `(tactic| first | omega | (dsimp only; omega) | (unfold CDiv; omega) | (unfold CMul; omega))
local macro_rules | `(tactic| walk_at "rd1") => `(tactic| first
  | with_reducible refine rd_c ?_
  | ((with_reducible refine' rd_var ?rh ?_); (case rh => exact rfl))
  | with_reducible refine rd_op ?_
  | with_reducible refine rd_seq ?_
  | with_reducible refine rd_asg ?_
  | with_reducible refine rd_gname ?_
  | with_reducible refine rd_ifS ?_
  | with_reducible refine rd_test ?_
  | with_reducible refine rd_tB ?_
  | with_reducible refine rd_blP ?_
  | ((with_reducible refine' iteY ?rh ?_); (case rh => walk_at "bb"))
  | ((with_reducible refine' iteN ?rh ?_); (case rh => walk_at "bb"))
  | with_reducible refine rd_ret ?_
  | with_reducible refine rd_nx ?_
  | ((with_reducible refine' rd_eq ?rh ?_); (case rh => exact rfl))
  | ((with_reducible refine' rd_ne ?rh ?_); (case rh => exact rfl))
  | with_reducible refine rd_add ?_
  | with_reducible refine rd_sub ?_
  | with_reducible refine rd_i0 ?_
  | with_reducible refine rd_and ?_
  | with_reducible refine rd_or ?_
  | with_reducible refine rd_not ?_
  | with_reducible refine rd_andV ?_
  | with_reducible refine rd_orV ?_
  | with_reducible refine rd_notV ?_
  | with_reducible refine rd_ifE ?_
  | with_reducible refine rd_isN ?_
  | with_reducible refine rd_notN ?_
  | with_reducible refine rd_cons ?_
  | with_reducible refine rd_nil ?_
  | with_reducible refine rd_tup ?_
  | with_reducible refine rd_lst ?_
  | with_reducible refine rd_call ?_
  | with_reducible refine rd_cb ?_
  | with_reducible refine rd_meth ?_
  | with_reducible refine rd_callS ?_
  | with_reducible refine rd_make ?_
  | with_reducible refine rd_rfl ?_
  | with_reducible refine rd_fld ?_
  | with_reducible refine rd_drop ?_
  | with_reducible refine rd_gsub ?_
  | with_reducible refine rd_gcons ?_
  | with_reducible refine rd_gnil ?_
  | with_reducible refine rd_par ?_
  | with_reducible refine rd_two ?_
  | with_reducible refine rd_par3 ?_
  | with_reducible refine rd_three ?_
  | with_reducible refine rd_int1 ?_
  | ((with_reducible refine' rd_i ?rh ?_); (case rh => walk_at "ci"))
  | with_reducible refine rd_part ?_
  | with_reducible refine rd_nopart ?_
  | with_reducible refine rd_int ?_
  | with_reducible refine rd_sl ?_
  | with_reducible refine rd_bm ?_
  | with_reducible refine rd_bm0 ?_
  | with_reducible refine rd_dgetT ?_
  | with_reducible refine rd_din ?_
  | with_reducible refine rd_dnin ?_
  | with_reducible refine rd_un ?_
  | ((with_reducible refine' rd_ixL ?rh ?re ?_); (case rh => walk_at "hp"); (case re => walk_at "at"))
  | ((with_reducible refine' rd_ixT ?rh ?re ?_); (case rh => walk_at "sq"); (case re => walk_at "at"))
  | ((with_reducible refine' rd_lenT ?rh ?_); (case rh => walk_at "sq"))
  | ((with_reducible refine' rd_tyL ?rh ?_); (case rh => walk_at "hp"))
  | ((with_reducible refine' rd_len ?rh ?_); (case rh => walk_at "hp"))
  | with_reducible refine rd_u ?_
  | ((with_reducible refine' rd_slL ?rh ?_); (case rh => walk_at "hp"))
  | with_reducible refine rd_for ?_
  | with_reducible refine rd_rng1 ?_
  | with_reducible refine rd_rng2 ?_
  | with_reducible refine rd_ints1 ?_
  | with_reducible refine rd_ints2 ?_
  | with_reducible refine rd_retN ?_)
local macro_rules | `(tactic| walk_at "rd") => `(tactic| repeat walk_at "rd1")
section
variable [KW]
variable {P : Program} {w : World} {K : PySem.W.Frag} {mg : Str → Option Value} {base : Heap}
/-! ### are_letters -/
theorem let_at {M : List Addr} {H : Hp} {n : Nat} {L : Nat → Nat} {lets : List V} (x : IsDs M H (ltD n L) lets) {i : Nat} {v : V} (h : lets[i]? = some v) : i < 8 ∧ ∃ l, v = .ref l ∧ l ∉ M ∧ H l = some (.lst (nVl (bitsL n (L i)))) := by
  obtain ⟨d, hd, hi⟩ := x.getV h
  unfold ltD at hd
  rw [List.getElem?_map, Option.map_eq_some_iff] at hd
  obtain ⟨j, hj, rfl⟩ := hd
  obtain ⟨h8, e⟩ := List.getElem?_eq_some_iff.mp hj
  rw [List.length_range] at h8
  have ej : j = i := by rw [← e, List.getElem_range]
  subst ej
  obtain ⟨l, vs, e1, lM, hl, hs⟩ := hi.lstE
  rw [nD_of hs] at hl
  exact ⟨h8, l, e1, lM, hl⟩
theorem ltD_len (n : Nat) (L : Nat → Nat) : (ltD n L).length = 8 := by unfold ltD; rw [List.length_map, List.length_range]
structure LetP (vs : List V) (H : Hp) (Q : VK) : Prop where
  ex : ∃ (v : V) (n : Nat) (L : Nat → Nat), vs = [v, .int (n : Nat)] ∧ Is [] H (.tuple (ltD n L)) v ∧ n ≤ 1000 ∧ ∀ H', Adv [] H H' → Q (.bl true) H'
def spLets : Sp := fun vs H Q _ => LetP vs H Q
theorem ok_are_letters (A : All K mg w) : FnOk P w K mg base CX0 4 A.are_letters.f A.are_letters.fd ["value", "worlds"] spLets := by
  refine A.are_letters.F.ok sc_are_letters (fun vs H Q E h => ?_) (fun cdv Ar outer s H vs Q E hr h => ?_)
  · obtain ⟨v, n, L, rfl, _⟩ := h.ex
    rfl
  · obtain ⟨v, n, L, rfl, hv, hn, q⟩ := h.ex
    obtain ⟨tE, mE⟩ := A.C.eight
    refine ⟨_, (pss_cons (ps_if (pt_not (pt_val (pe_call (ok_is_tuple_of A) (hr.mono (by omega)) rfl A.is_tuple_of.m A.is_tuple_of.F.kp A.is_tuple_of.b .nil pass0 (pa_cons (pv 0) (pa_cons (pe_glob (v := .int 8) rfl mE ⟨_, rfl⟩) pa_nil)))))
    (pss_one (ps_ret pe_bl))
    pss_nil)
  (pss_cons (ps_for PassesOwn.never rfl (pi_tup (pv 0)) (pg_name (i := 2) sc_are_letters.nd rfl (Or.inl rfl))
    (pss_one (ps_if (PW.pt (pw_or (pt_not (pt_val (pe_callB call_isi (by rfl) A.T.isinstance (by decide +kernel) (pa_cons (pv 2) (pa_cons (pe_bltn (v := .ty "list") (by rfl) A.T.list (by decide +kernel) rfl) pa_nil))))) (pw_or (pt_not (pt_val (pe_callB (cr_all rfl) (by rfl) A.T.all (by decide +kernel) (pa_cons (pe_lc (own := [("v", 3)]) (g := (gName 3)) rfl sc_are_letters.nd (pi_list (pv 2)) (blkOk_by (own := [("v", 3)]) (N := ["value", "worlds", "held", "v"]) (sc := defScope s_are_letters) (by decide +kernel)) (fun _ _ _ _ _ => pg_name (i := 3) sc_are_letters.nd rfl (Or.inl rfl)) (fun _ _ _ _ _ => pts_nil) (fun _ _ _ _ _ => (pe_call (ok_is_between A) (hr.mono (by omega)) rfl A.is_between.m A.is_between.F.kp A.is_between.b .nil pass0 (pa_cons (pv 3) (pa_cons pe_int (pa_cons (pe_op op_sub (pv 1) pe_int) pa_nil)))))) pa_nil)))) (pw_or1 (pt_not (pt_val (pe_call (ok_is_rising A) (hr.mono (by omega)) rfl A.is_rising.m A.is_rising.F.kp A.is_rising.b .nil pass0 (pa_cons (pv 2) pa_nil))))))))
    (pss_one (ps_ret pe_bl))
    pss_nil)))
  (pss_one (ps_ret pe_bl)))), ?_⟩
    obtain ⟨t, lets, rfl, ht, hs⟩ := hv.tupE
    have hl8 : lets.length = 8 := by rw [hs.len, ltD_len]
    walk_at "rd"
    refine ⟨_, _, 8, rfl, hv, ?_⟩
    have e8 : tupN 8 (.tuple (ltD n L)) = true := by
      show decide (((ltD n L).length : Int) = 8) = true
      rw [ltD_len]; rfl
    rw [e8]
    walk_at "rd"
    refine ⟨_, rfl, t, rfl, ⟨_, ht.sq A.W⟩, ?_⟩
    refine for_tup (a := t) (xs := lets) (fun i σ' H' => ∃ y, σ' = [some (.ref t), some (.int (n : Nat)), y, none] ∧ Adv [] H H') ⟨_, rfl, Adv.refl _ _⟩ ?_ ?_ ?_
    · rintro i σ' H' hi ⟨y, rfl, a⟩
      exact (ht.adv a).sq A.W
    · rintro i x σ' H' hx ⟨y, rfl, a⟩
      obtain ⟨h8, l, rfl, _, hl⟩ := let_at (hs.adv a) hx
      have il : Is [] H' (.list (nD (bitsL n (L i)))) (.ref l) := Is.lst hl (by simp) (nD_is _)
      have bl := bitsL_len n (L i)
      walk_at "rd"
      refine ⟨_, _, _, _, _, rfl, .ty _, il.ty A.W, k_list (.list (nD (bitsL n (L i)))), _, rfl, ?_⟩
      refine iteN rfl ?_
      walk_at "rd"
      refine ⟨_, rfl, l, rfl, ⟨_, SqL.of hl⟩, fun D nD => ?_⟩
      refine lc_natL (T := bitsL n (L i)) (fun _ => V.bl true) nD hl (by omega) ?_ ?_
      · intro k H2 acc R hk aH hD r
        have hk2 := bitsL_mem.mp hk
        refine ⟨rfl, ?_⟩
        walk_at "rd"
        refine ⟨_, .int (k : Nat), 0, (n : Int) - 1, rfl, Is.int, ?_⟩
        have e : isNum 0 ((n : Int) - 1) (.int (k : Nat)) = true := by
          show (decide (0 ≤ (k : Int)) && decide ((k : Int) ≤ (n : Int) - 1)) = true
          rw [decide_eq_true (by omega), decide_eq_true (by omega)]; rfl
        rw [e]
        exact r H2 hD aH
      · intro H2 a2 hD
        refine ⟨D, (bitsL n (L i)).map fun _ => true, rfl, .inl (.inl ?_), ?_⟩
        · rw [hD, List.map_map]
          rfl
        rw [all_true]
        walk_at "rd"
        refine ⟨l, _, rfl, a2.same _ _ hl, by rw [nVl_ln]; omega, nVl_ltV (bitsL_asc n (L i)), fun H3 a3 => ?_⟩
        walk_at "rd"
        exact ⟨_, rfl, (a.trans a2).trans a3⟩
    · rintro σ' H' ⟨y, rfl, a⟩
      walk_at "rd"
      exact q H' a
/-! ### masks_of_arcs, mask_of, members -/
theorem rep0 (n : Nat) : (List.replicate n [V.int 0]).flatten = nVl (List.replicate n 0) := by
  unfold nVl
  induction n with
  | zero => rfl
  | succ n ih => rw [List.replicate_succ, List.flatten_cons, ih, List.replicate_succ, List.map_cons]; rfl
theorem nVl_set (l : List Nat) (i x : Nat) : (nVl l).set i (.int (x : Nat)) = nVl (l.set i x) := by unfold nVl; rw [List.map_set]
theorem nVl_get? {l : List Nat} {i : Nat} (h : i < l.length) : (nVl l)[i]? = some (.int (sA l i : Nat)) := by
  unfold nVl sA
  rw [List.getElem?_map, List.getElem?_eq_getElem h, List.getD_eq_getElem?_getD, List.getElem?_eq_getElem h]
  rfl
theorem masks_len (n : Nat) (arcs : List (Nat × Nat)) : (arcs.foldl (fun m a => m.set a.1 (sA m a.1 ||| 2 ^ a.2)) (List.replicate n 0)).length = n := by
  have : ∀ (arcs : List (Nat × Nat)) (m : List Nat), (arcs.foldl (fun m a => m.set a.1 (sA m a.1 ||| 2 ^ a.2)) m).length = m.length := by
    intro arcs
    induction arcs with
    | nil => intro m; rfl
    | cons a arcs ih => intro m; rw [List.foldl_cons, ih, List.length_set]
  rw [this, List.length_replicate]
theorem masksF_snoc (n : Nat) (l : List (Nat × Nat)) (a : Nat × Nat) : masksF n (l ++ [a]) = (masksF n l).set a.1 (sA (masksF n l) a.1 ||| 2 ^ a.2) := by
  unfold masksF
  rw [List.foldl_append]
  rfl
structure MskP (vs : List V) (H : Hp) (Q : VK) : Prop where
  ex : ∃ (v : V) (arcs : List (Nat × Nat)) (n : Nat), vs = [.int (n : Nat), v] ∧ Is [] H (arcsD arcs) v ∧ arcs.length ≤ 100000 ∧ n ≤ 500 ∧ (∀ a ∈ arcs, a.1 < n ∧ a.2 < n) ∧ ∀ D H', H D = none → H' D = some (.lst (nVl (masksF n arcs))) → Adv [] H H' → Q (.ref D) H'
def spMasks : Sp := fun vs H Q _ => MskP vs H Q
theorem ok_masks_of_arcs (A : All K mg w) : FnOk P w K mg base CX0 1 A.masks_of_arcs.f A.masks_of_arcs.fd ["worlds", "arcs"] spMasks := by
  refine A.masks_of_arcs.F.ok sc_masks_of_arcs (fun vs H Q E h => ?_) (fun cdv Ar outer s H vs Q E hr h => ?_)
  · obtain ⟨v, arcs, n, rfl, _⟩ := h.ex
    rfl
  · obtain ⟨v, arcs, n, rfl, hv, hz, hn, hb, q⟩ := h.ex
    refine ⟨_, (pss_cons (ps_set (i := 2) sc_masks_of_arcs.nd rfl (Or.inl rfl) (pe_op op_rep (pe_lst (pa_cons pe_int pa_nil)) (pv 0)))
  (pss_cons (ps_for PassesOwn.never rfl (pi_list (pv 1)) (pg_tup rfl (pgs_cons (pg_name (i := 3) sc_masks_of_arcs.nd rfl (Or.inl rfl)) (pgs_cons (pg_name (i := 4) sc_masks_of_arcs.nd rfl (Or.inl rfl)) pgs_nil)))
    (pss_one (ps_asg (pe_op op_or (pe_ix ix_list (pv 2) (pv 3) (fun _ _ => rfl)) (pe_op op_shl pe_int (pv 4))) (pg_sub (pv 2) (pv 3) set_list))))
  (pss_one (ps_ret (pv 2))))), ?_⟩
    obtain ⟨l, prs, rfl, _, hl, hs⟩ := hv.lstE
    have hlen := hs.len
    rw [List.length_map] at hlen
    walk_at "rd"
    refine ⟨by show 1 ≤ sizeLine; decide, fun p np => ?_⟩
    have ap : Adv [] H (upd H p (.lst [.int 0])) := Adv.new np
    walk_at "rd"
    refine ⟨p, (n : Nat), [.int 0], rfl, rfl, upd_same, by omega, by omega, by rw [sizeLine_eq]; simp; omega, fun D nD => ?_⟩
    rw [Int.toNat_natCast, rep0]
    have aD := ap.newT (o := .lst (nVl (List.replicate n 0))) nD
    have nD0 : H D = none := ap.free (by simp) nD
    walk_at "rd"
    refine ⟨_, rfl, l, rfl, ⟨_, SqL.of (aD.same _ _ hl)⟩, ?_⟩
    refine for_list (a := l) (xs := prs) (fun i σ' H' => ∃ y3 y4, σ' = [some (.int (n : Nat)), some (.ref l), some (.ref D), y3, y4] ∧ H' D = some (.lst (nVl (masksF n (arcs.take i)))) ∧ Adv [] H H') ⟨_, _, rfl, upd_same, aD⟩ ?_ ?_ ?_
    · rintro i σ' H' hi ⟨y3, y4, rfl, hD, a⟩
      exact SqL.of (a.same _ _ hl)
    · rintro i x σ' H' hx ⟨y3, y4, rfl, hD, a⟩
      obtain ⟨⟨v, w⟩, t, ha, rfl, ht⟩ := prs_at (hs.adv a) hx
      obtain ⟨h1, h2⟩ := hb (v, w) (List.mem_of_getElem? ha)
      have h1 : v < n := h1
      have h2 : w < n := h2
      have ml : (masksF n (arcs.take i)).length = n := masks_len n _
      refine rd_gtup (ht.sq A.W) rfl ?_
      walk_at "rd"
      refine ⟨D, _, (v : Nat), _, rfl, rfl, SqL.of hD, atI_nat (nVl_get? (by rw [ml]; exact h1)), ?_⟩
      walk_at "rd"
      refine rd_shl1 (by omega) (rd_bor ?_)
      walk_at "rd"
      refine ⟨D, _, (v : Nat), v, rfl, rfl, hD, ixN_of (by rw [nVl_ln, ml]; exact h1), ?_⟩
      walk_at "rd"
      refine ⟨_, _, rfl, ?_, a.mut nD0⟩
      rw [upd_same, nVl_set, take_snc ha, masksF_snoc]
    · rintro σ' H' ⟨y3, y4, rfl, hD, a⟩
      rw [hlen, List.take_length] at hD
      walk_at "rd"
      exact q D H' nD0 hD a
def spBitsL : Sp := fun vs H Q _ => ∃ (a : Addr) (rows : List Nat), vs = [.ref a] ∧ H a = some (.lst (nVl rows)) ∧ (∀ r ∈ rows, r ≤ 500) ∧ Q (.int (bitsN rows : Nat)) H
theorem ok_mask_of (A : All K mg w) : FnOk P w K mg base CX0 1 A.mask_of.f A.mask_of.fd ["rows"] spBitsL := by
  refine A.mask_of.F.ok sc_mask_of (fun vs H Q E h => ?_) (fun cdv Ar outer s H vs Q E hr h => ?_)
  · obtain ⟨a, rows, rfl, _⟩ := h
    rfl
  · obtain ⟨a, rows, rfl, ha, hr5, q⟩ := h
    refine ⟨_, (pss_cons (ps_set (i := 1) sc_mask_of.nd rfl (Or.inl rfl) pe_int)
  (pss_cons (ps_for PassesOwn.never rfl (pi_list (pv 0)) (pg_name (i := 2) sc_mask_of.nd rfl (Or.inl rfl))
    (pss_one (ps_set (i := 1) sc_mask_of.nd rfl (Or.inl rfl) (pe_op op_or (pv 1) (pe_op op_shl pe_int (pv 2))))))
  (pss_one (ps_ret (pv 1))))), ?_⟩
    have sq := SqL.of (K := K) ha
    walk_at "rd"
    refine ⟨_, rfl, a, rfl, ⟨_, sq⟩, ?_⟩
    refine for_list (a := a) (xs := nVl rows) (fun i σ' H' => H' = H ∧ ∃ y, σ' = [some (.ref a), some (.int (bitsN (rows.take i) : Nat)), y]) ⟨rfl, _, rfl⟩ ?_ ?_ ?_
    · rintro i σ' H' hi ⟨rfl, y, rfl⟩
      exact sq
    · rintro i x σ' H' hx ⟨rfl, y, rfl⟩
      obtain ⟨k, hk, rfl⟩ := nVl_gt hx
      have := hr5 k (List.mem_of_getElem? hk)
      walk_at "rd"
      refine rd_shl1 (by omega) (rd_bor ?_)
      walk_at "rd"
      refine ⟨some (.int (k : Nat)), ?_⟩
      rw [take_snc hk, bitsN_snoc]
      rfl
    · rintro σ' H' ⟨rfl, y, rfl⟩
      rw [nVl_ln, List.take_length]
      walk_at "rd"
      exact q
theorem ok_law_bits (A : All K mg w) : FnOk P w K mg base CX0 1 A.law_bits.f A.law_bits.fd ["rows"] spBitsL := by
  refine A.law_bits.F.ok sc_law_bits (fun vs H Q E h => ?_) (fun cdv Ar outer s H vs Q E hr h => ?_)
  · obtain ⟨a, rows, rfl, _⟩ := h
    rfl
  · obtain ⟨a, rows, rfl, ha, hr5, q⟩ := h
    refine ⟨_, (pss_cons (ps_set (i := 1) sc_law_bits.nd rfl (Or.inl rfl) pe_int)
  (pss_cons (ps_for PassesOwn.never rfl (pi_list (pv 0)) (pg_name (i := 2) sc_law_bits.nd rfl (Or.inl rfl))
    (pss_one (ps_set (i := 1) sc_law_bits.nd rfl (Or.inl rfl) (pe_op op_or (pv 1) (pe_op op_shl pe_int (pv 2))))))
  (pss_one (ps_ret (pv 1))))), ?_⟩
    have sq := SqL.of (K := K) ha
    walk_at "rd"
    refine ⟨_, rfl, a, rfl, ⟨_, sq⟩, ?_⟩
    refine for_list (a := a) (xs := nVl rows) (fun i σ' H' => H' = H ∧ ∃ y, σ' = [some (.ref a), some (.int (bitsN (rows.take i) : Nat)), y]) ⟨rfl, _, rfl⟩ ?_ ?_ ?_
    · rintro i σ' H' hi ⟨rfl, y, rfl⟩
      exact sq
    · rintro i x σ' H' hx ⟨rfl, y, rfl⟩
      obtain ⟨k, hk, rfl⟩ := nVl_gt hx
      have := hr5 k (List.mem_of_getElem? hk)
      walk_at "rd"
      refine rd_shl1 (by omega) (rd_bor ?_)
      walk_at "rd"
      refine ⟨some (.int (k : Nat)), ?_⟩
      rw [take_snc hk, bitsN_snoc]
      rfl
    · rintro σ' H' ⟨rfl, y, rfl⟩
      rw [nVl_ln, List.take_length]
      walk_at "rd"
      exact q
theorem nV_bits (n x : Nat) : (((List.range n).filter fun i => x.testBit i).map fun i => V.int (0 + ((i : Nat) : Int))) = nVl (bitsL n x) := by
  unfold nVl bitsL
  congr 1
  funext i
  rw [Int.zero_add]
def spListed : Sp := fun vs H Q _ => ∃ (x n : Nat), vs = [.int (x : Nat), .int (n : Nat)] ∧ n ≤ 500 ∧ ∀ D H', H D = none → H' D = some (.lst (nVl (bitsL n x))) → Adv [] H H' → Q (.ref D) H'
theorem ok_law_listed (A : All K mg w) : FnOk P w K mg base CX0 1 A.law_listed.f A.law_listed.fd ["bits", "many"] spListed := by
  refine A.law_listed.F.ok sc_law_listed (fun vs H Q E h => ?_) (fun cdv Ar outer s H vs Q E hr h => ?_)
  · obtain ⟨x, n, rfl, _⟩ := h
    rfl
  · obtain ⟨x, n, rfl, hn, q⟩ := h
    refine ⟨_, (pss_one (ps_ret (pe_lc (own := [("at", 2)]) (g := (gName 2)) rfl sc_law_listed.nd (pi_range1 rfl A.T.range (pa_cons (pv 1) pa_nil)) (blkOk_by (own := [("at", 2)]) (N := ["bits", "many", "at"]) (sc := defScope s_law_listed) (by decide +kernel)) (fun _ _ _ _ _ => pg_name (i := 2) sc_law_listed.nd rfl (Or.inl rfl)) (fun _ _ _ _ _ => pts_one (pt_cmpR op_ne (pe_op op_and (pv 0) (pe_op op_shl pe_int (pv 2))) pe_int (nomark _))) (fun _ _ _ _ _ => (pv 2))))), ?_⟩
    walk_at "rd"
    refine ⟨_, rfl, (n : Nat), rfl, by omega, by omega, fun D nD => ?_⟩
    refine lc_filtRl (lo := 0) (n := ((n : Nat) : Int).toNat) (fun i => V.int (0 + ((i : Nat) : Int))) (fun i => x.testBit i) nD (by omega) ?_ ?_
    · intro i H' acc R R0 hi aH hD k k0
      refine ⟨rfl, _, rfl, ?_⟩
      walk_at "rd"
      rw [Int.zero_add]
      refine rd_shl1 (by omega) (rd_band ?_)
      walk_at "rd"
      rw [and_pow, Bool.not_not]
      refine iteB (fun e => ?_) (fun e => ?_)
      · have := k e H' hD aH
        rw [Int.zero_add] at this
        exact ⟨_, rfl, this⟩
      · exact k0 e H' hD aH
    · intro H' aH hD
      rw [Int.toNat_natCast, nV_bits] at hD
      exact q D H' nD hD aH
theorem ok_members (A : All K mg w) : FnOk P w K mg base CX0 1 A.members.f A.members.fd ["mask", "many"] spListed := by
  refine A.members.F.ok sc_members (fun vs H Q E h => ?_) (fun cdv Ar outer s H vs Q E hr h => ?_)
  · obtain ⟨x, n, rfl, _⟩ := h
    rfl
  · obtain ⟨x, n, rfl, hn, q⟩ := h
    refine ⟨_, (pss_one (ps_ret (pe_lc (own := [("k", 2)]) (g := (gName 2)) rfl sc_members.nd (pi_range1 rfl A.T.range (pa_cons (pv 1) pa_nil)) (blkOk_by (own := [("k", 2)]) (N := ["mask", "many", "k"]) (sc := defScope s_members) (by decide +kernel)) (fun _ _ _ _ _ => pg_name (i := 2) sc_members.nd rfl (Or.inl rfl)) (fun _ _ _ _ _ => pts_one (pt_cmpR op_ne (pe_op op_and (pv 0) (pe_op op_shl pe_int (pv 2))) pe_int (nomark _))) (fun _ _ _ _ _ => (pv 2))))), ?_⟩
    walk_at "rd"
    refine ⟨_, rfl, (n : Nat), rfl, by omega, by omega, fun D nD => ?_⟩
    refine lc_filtRl (lo := 0) (n := ((n : Nat) : Int).toNat) (fun i => V.int (0 + ((i : Nat) : Int))) (fun i => x.testBit i) nD (by omega) ?_ ?_
    · intro i H' acc R R0 hi aH hD k k0
      refine ⟨rfl, _, rfl, ?_⟩
      walk_at "rd"
      rw [Int.zero_add]
      refine rd_shl1 (by omega) (rd_band ?_)
      walk_at "rd"
      rw [and_pow, Bool.not_not]
      refine iteB (fun e => ?_) (fun e => ?_)
      · have := k e H' hD aH
        rw [Int.zero_add] at this
        exact ⟨_, rfl, this⟩
      · exact k0 e H' hD aH
    · intro H' aH hD
      rw [Int.toNat_natCast, nV_bits] at hD
      exact q D H' nD hD aH
end
end K10

set_option Elab.async false
set_option linter.all false
set_option maxRecDepth 100000
set_option maxHeartbeats 400000
namespace K10
open PySem PySem.Spec PyProof.Rows L2 LL
open C8 (pss_cut)
local macro_rules | `(tactic| walk_at "ne") => `(tactic| first | assumption | (apply Ne.symm; assumption) | exact ne_of_none (by walk_at "hp") (by assumption) | exact (ne_of_none (by walk_at "hp") (by assumption)).symm)
local macro_rules | `(tactic| walk_at "nm") => `(tactic| first | assumption | exact notin0 | exact notin1 (by walk_at "ne") | exact notin2 (by walk_at "ne") (by walk_at "ne"))
local macro_rules | `(tactic| walk_at "hp") => `(tactic| first | assumption | exact upd_same | (refine Eq.trans (upd_ne ?ne) ?hh; (case hh => walk_at "hp"); (case ne => walk_at "ne")) | (refine Adv.get' (by assumption) ?hh ?nn; (case hh => walk_at "hp"); (case nn => walk_at "nm")))
local macro_rules | `(tactic| walk_at "tp") => `(tactic| first | assumption | exact Tp.adv (by walk_at "tp") (by assumption) | exact Tp.adv (by walk_at "tp") (Adv.nil (by assumption)))
local macro_rules | `(tactic| walk_at "sq") => `(tactic| first | assumption | exact Tp.sq (by assumption) (by walk_at "tp") | exact SqT.of (by walk_at "hp"))
local macro_rules | `(tactic| walk_at "at") => `(tactic| first | exact atI_nat (j := 0) rfl | exact atI_nat (j := 1) rfl | exact atI_nat (j := 2) rfl | exact atI_nat (j := 3) rfl | exact atI_nat (by assumption) | (rw [Int.zero_add]; exact atI_nat (by assumption)))
local macro_rules | `(tactic| walk_at "bb") => `(tactic| first | assumption | decide | exact rfl)
local macro_rules | `(tactic| walk_at "ci") => `(tactic| first | omega | (dsimp only; omega) | (unfold CDiv; omega) | (unfold CMul; omega))
local macro_rules | `(tactic| walk_at "rd1") => `(tactic| first
  | with_reducible refine rd_c ?_
  | ((with_reducible refine' rd_var ?rh ?_); (case rh => exact rfl))
  | with_reducible refine rd_op ?_
  | with_reducible refine rd_seq ?_
  | with_reducible refine rd_asg ?_
  | with_reducible refine rd_gname ?_
  | with_reducible refine rd_ifS ?_
  | with_reducible refine rd_test ?_
  | with_reducible refine rd_tB ?_
  | with_reducible refine rd_blP ?_
  | ((with_reducible refine' iteY ?rh ?_); (case rh => walk_at "bb"))
  | ((with_reducible refine' iteN ?rh ?_); (case rh => walk_at "bb"))
  | with_reducible refine rd_ret ?_
  | with_reducible refine rd_nx ?_
  | ((with_reducible refine' rd_eq ?rh ?_); (case rh => exact rfl))
  | ((with_reducible refine' rd_ne ?rh ?_); (case rh => exact rfl))
  | with_reducible refine rd_add ?_
  | with_reducible refine rd_sub ?_
  | with_reducible refine rd_i0 ?_
  | with_reducible refine rd_and ?_
  | with_reducible refine rd_or ?_
  | with_reducible refine rd_not ?_
  | with_reducible refine rd_andV ?_
  | with_reducible refine rd_orV ?_
  | with_reducible refine rd_notV ?_
  | with_reducible refine rd_ifE ?_
  | with_reducible refine rd_isN ?_
  | with_reducible refine rd_notN ?_
  | with_reducible refine rd_cons ?_
  | with_reducible refine rd_nil ?_
  | with_reducible refine rd_tup ?_
  | with_reducible refine rd_lst ?_
  | with_reducible refine rd_call ?_
  | with_reducible refine rd_cb ?_
  | with_reducible refine rd_meth ?_
  | with_reducible refine rd_callS ?_
  | with_reducible refine rd_make ?_
  | with_reducible refine rd_rfl ?_
  | with_reducible refine rd_fld ?_
  | with_reducible refine rd_drop ?_
  | with_reducible refine rd_gsub ?_
  | with_reducible refine rd_gcons ?_
  | with_reducible refine rd_gnil ?_
  | with_reducible refine rd_par ?_
  | with_reducible refine rd_two ?_
  | with_reducible refine rd_par3 ?_
  | with_reducible refine rd_three ?_
  | with_reducible refine rd_int1 ?_
  | ((with_reducible refine' rd_i ?rh ?_); (case rh => walk_at "ci"))
  | with_reducible refine rd_part ?_
  | with_reducible refine rd_nopart ?_
  | with_reducible refine rd_int ?_
  | with_reducible refine rd_sl ?_
  | with_reducible refine rd_bm ?_
  | with_reducible refine rd_bm0 ?_
  | with_reducible refine rd_dgetT ?_
  | with_reducible refine rd_din ?_
  | with_reducible refine rd_dnin ?_
  | with_reducible refine rd_un ?_
  | ((with_reducible refine' rd_ixL ?rh ?re ?_); (case rh => walk_at "hp"); (case re => walk_at "at"))
  | ((with_reducible refine' rd_ixT ?rh ?re ?_); (case rh => walk_at "sq"); (case re => walk_at "at"))
  | ((with_reducible refine' rd_lenT ?rh ?_); (case rh => walk_at "sq"))
  | ((with_reducible refine' rd_tyL ?rh ?_); (case rh => walk_at "hp"))
  | ((with_reducible refine' rd_len ?rh ?_); (case rh => walk_at "hp"))
  | with_reducible refine rd_u ?_
  | ((with_reducible refine' rd_slL ?rh ?_); (case rh => walk_at "hp"))
  | with_reducible refine rd_for ?_
  | with_reducible refine rd_rng1 ?_
  | with_reducible refine rd_rng2 ?_
  | with_reducible refine rd_ints1 ?_
  | with_reducible refine rd_ints2 ?_
  | with_reducible refine rd_retN ?_)
local macro_rules | `(tactic| walk_at "rd") => `(tactic| repeat walk_at "rd1")
section
variable [KW]
variable {P : Program} {w : World} {K : PySem.W.Frag} {mg : Str → Option Value} {base : Heap}
def spCheckLogic : Sp := fun vs H Q E => ∃ (x : Str), vs = [.str x] ∧ logicOk x = true ∧ Q .non H
theorem ok_check_logic (A : All K mg w) : FnOk P w K mg base CX0 1 A.check_logic.f A.check_logic.fd ["logic"] spCheckLogic := by
  refine A.check_logic.F.ok sc_check_logic (fun vs H Q E h => ?_) (fun cdv Ar outer s H vs Q E hr h => ?_)
  · obtain ⟨x, rfl, _⟩ := h
    rfl
  · obtain ⟨x, rfl, hx, q⟩ := h
    obtain ⟨a, ma, ha⟩ := A.C.logics
    refine ⟨_, (pss_one (ps_if (PW.pt (pw_or (pt_not (pt_val (pe_callB call_isi (by rfl) A.T.isinstance (by decide +kernel) (pa_cons (pv 0) (pa_cons (pe_bltn (v := .ty "str") (by rfl) A.T.str (by decide +kernel) rfl) pa_nil))))) (pw_or1 (pt_cmpR op_notIn_seq (pv 0) (pe_glob (v := .ref a) rfl ma rfl) rfl))))
    (pss_one ps_never)
    pss_nil)), ?_⟩
    refine ⟨_, rfl, _, _, _, _, _, rfl, .ty _, (Is.str (M := [])).ty A.W, k_str (.str x), _, rfl, ?_⟩
    refine iteN rfl ?_
    refine ⟨_, rfl, a, _, rfl, .inr (ha H), rfl, by decide, _, rfl, ?_⟩
    have e : inV (.str x) [.str "classical", .str "intuit", .str "k", .str "s4", .str "gl"] = logicOk x := (inV_strs x ["classical", "intuit", "k", "s4", "gl"]).trans (by simp [logicOk, Bool.or_assoc])
    rw [if_pos rfl, e, hx]
    exact q
/-! ### is_transitive -/
theorem dec_int {a b : Nat} : decide (V.int ((a : Nat) : Int) = V.int ((b : Nat) : Int)) = decide (a = b) := decide_eq_decide.mpr nat_ne
theorem all_bl {α : Type} (l : List α) (f : α → Bool) : l.map (fun k => V.bl (f k)) = (l.map f).map V.bl := by rw [List.map_map]; rfl
theorem all_id' {α : Type} (l : List α) (f : α → Bool) : (l.map f).all id = l.all f := by rw [List.all_map]; rfl
theorem any_id' {α : Type} (l : List α) (f : α → Bool) : (l.map f).any id = l.any f := by rw [List.any_map]; rfl
theorem range_list {α : Type} (l : List α) (d : α) (f : α → Bool) : ((List.range l.length).map fun i => V.bl (f (l.getD i d))) = (l.map f).map V.bl := by
  rw [List.map_map]
  apply List.ext_getElem?
  intro i
  rw [List.getElem?_map, List.getElem?_map]
  by_cases hi : i < l.length
  · rw [List.getElem?_range hi, List.getElem?_eq_getElem hi]
    simp [hi]
  · rw [List.getElem?_eq_none (by simpa using hi), List.getElem?_eq_none (by omega)]
    rfl
structure TrnP (vs : List V) (H : Hp) (Q : VK) : Prop where
  ex : ∃ (v : V) (l : Addr) (ss : List Nat), vs = [v, .ref l] ∧ Is [] H (arcsD (arcsF ss)) v ∧ H l = some (.lst (nVl ss)) ∧ ss.length ≤ 300 ∧ ∀ H', Adv [] H H' → Q (.bl (transB ss)) H'
def spTrn : Sp := fun vs H Q _ => TrnP vs H Q
theorem ok_is_transitive (A : All K mg w) : FnOk P w K mg base CX0 1 A.is_transitive.f A.is_transitive.fd ["arcs", "masks"] spTrn := by
  refine A.is_transitive.F.ok sc_is_transitive (fun vs H Q E h => ?_) (fun cdv Ar outer s H vs Q E hr h => ?_)
  · obtain ⟨v, l, ss, rfl, _⟩ := h.ex
    rfl
  · obtain ⟨v, l, ss, rfl, hv, hl, hz, q⟩ := h.ex
    refine ⟨_, (pss_one (ps_ret (pe_callB (cr_all rfl) (by rfl) A.T.all (by decide +kernel) (pa_cons (pe_lc (own := [("v", 2), ("w", 3)]) (g := (gTup K 2 (gCons (gName 2) (gCons (gName 3) gNil)))) rfl sc_is_transitive.nd (pi_list (pv 0)) (blkOk_by (own := [("v", 2), ("w", 3)]) (N := ["arcs", "masks", "v", "w"]) (sc := defScope s_is_transitive) (by decide +kernel)) (fun _ _ _ _ _ => (pg_tupK K rfl rfl (pgs_cons (pg_name (i := 2) sc_is_transitive.nd rfl (Or.inl rfl)) (pgs_cons (pg_name (i := 3) sc_is_transitive.nd rfl (Or.inl rfl)) pgs_nil)))) (fun _ _ _ _ _ => pts_nil) (fun _ _ _ _ _ => (pe_cmpR op_eq (pe_op op_or (pe_ix (ix_listK K rfl) (pv 1) (pv 2) (fun _ _ => rfl)) (pe_ix (ix_listK K rfl) (pv 1) (pv 3) (fun _ _ => rfl))) (pe_ix (ix_listK K rfl) (pv 1) (pv 2) (fun _ _ => rfl)) (nomark _)))) pa_nil)))), ?_⟩
    obtain ⟨ar, prs, rfl, _, har, hs⟩ := hv.lstE
    have hlen := hs.len
    rw [List.length_map] at hlen
    have za : (arcsF ss).length ≤ 90000 := Nat.le_trans (arcsF_len ss) (Nat.mul_le_mul hz hz)
    walk_at "rd"
    refine ⟨_, rfl, ar, rfl, ⟨_, SqL.of har⟩, fun D nD => ?_⟩
    refine lc_mapL (K := K) (a := ar) (xs := prs) (fun i => V.bl (decide (sA ss ((arcsF ss).getD i (0, 0)).1 ||| sA ss ((arcsF ss).getD i (0, 0)).2 = sA ss ((arcsF ss).getD i (0, 0)).1))) nD (SqL.of har) (by omega) ?_ ?_
    · intro i x H' acc R hx aH hD k
      obtain ⟨⟨a, b⟩, t, ha, rfl, ht⟩ := prs_at (hs.adv aH) hx
      have ed : (arcsF ss).getD i (0, 0) = (a, b) := by rw [List.getD_eq_getElem?_getD, ha]; rfl
      obtain ⟨m1, m2, m3⟩ := arcsF_mem.mp (List.mem_of_getElem? ha)
      have hl' := aH.same _ _ hl
      have k' := k H' hD aH
      rw [ed] at k'
      refine rd_gtup (ht.sq A.W) rfl ?_
      walk_at "rd"
      refine ⟨rfl, ?_⟩
      walk_at "rd"
      refine ⟨l, _, (a : Nat), _, rfl, rfl, SqL.of hl', atI_nat (nVl_get? m1), ?_⟩
      walk_at "rd"
      refine ⟨l, _, (b : Nat), _, rfl, rfl, SqL.of hl', atI_nat (nVl_get? m2), ?_⟩
      walk_at "rd"
      rw [bor]
      refine ⟨l, _, (a : Nat), _, rfl, rfl, SqL.of hl', atI_nat (nVl_get? m1), ?_⟩
      walk_at "rd"
      rw [dec_int]
      exact k'
    · intro H1 a1 hD
      refine ⟨D, (arcsF ss).map fun a => decide (sA ss a.1 ||| sA ss a.2 = sA ss a.1), rfl, .inl (.inl ?_), ?_⟩
      · rw [hD, hlen]
        congr 2
        exact range_list (arcsF ss) (0, 0) fun a => decide (sA ss a.1 ||| sA ss a.2 = sA ss a.1)
      rw [all_id']
      exact q H1 a1
end
end K10

set_option Elab.async false
set_option linter.all false
set_option maxRecDepth 100000
set_option maxHeartbeats 400000
namespace K10
open PySem PySem.Spec PyProof.Rows L2 LL
open C8 (pss_cut)
local macro_rules | `(tactic| walk_at "ne") => `(tactic| first | assumption | (apply Ne.symm; assumption) | exact ne_of_none (by walk_at "hp") (by assumption) | exact (ne_of_none (by walk_at "hp") (by assumption)).symm)
local macro_rules | `(tactic| walk_at "nm") => `(tactic| first | assumption | exact notin0 | exact notin1 (by walk_at "ne") | exact notin2 (by walk_at "ne") (by walk_at "ne"))
local macro_rules | `(tactic| walk_at "hp") => `(tactic| first | assumption | exact upd_same | (refine Eq.trans (upd_ne ?ne) ?hh; (case hh => walk_at "hp"); (case ne => walk_at "ne")) | (refine Adv.get' (by assumption) ?hh ?nn; (case hh => walk_at "hp"); (case nn => walk_at "nm")))
local macro_rules | `(tactic| walk_at "tp") => `(tactic| first | assumption | exact Tp.adv (by walk_at "tp") (by assumption) | exact Tp.adv (by walk_at "tp") (Adv.nil (by assumption)))
local macro_rules | `(tactic| walk_at "sq") => `(tactic| first | assumption | exact Tp.sq (by assumption) (by walk_at "tp") | exact SqT.of (by walk_at "hp"))
local macro_rules | `(tactic| walk_at "at") => `(tactic| first | exact atI_nat (j := 0) rfl | exact atI_nat (j := 1) rfl | exact atI_nat (j := 2) rfl | exact atI_nat (j := 3) rfl | exact atI_nat (by assumption) | (rw [Int.zero_add]; exact atI_nat (by assumption)))
local macro_rules | `(tactic| walk_at "bb") => `(tactic| first | assumption | decide | exact rfl)
local macro_rules | `(tactic| walk_at "ci") => `(tactic| first | omega | (dsimp only; omega) | (unfold CDiv; omega) | (unfold CMul; omega))
local macro_rules | `(tactic| walk_at "rd1") => `(tactic| first
  | with_reducible refine rd_c ?_
  | ((with_reducible refine' rd_var ?rh ?_); (case rh => exact rfl))
  | with_reducible refine rd_op ?_
  | with_reducible refine rd_seq ?_
  | with_reducible refine rd_asg ?_
  | with_reducible refine rd_gname ?_
  | with_reducible refine rd_ifS ?_
  | with_reducible refine rd_test ?_
  | with_reducible refine rd_tB ?_
  | with_reducible refine rd_blP ?_
  | ((with_reducible refine' iteY ?rh ?_); (case rh => walk_at "bb"))
  | ((with_reducible refine' iteN ?rh ?_); (case rh => walk_at "bb"))
  | with_reducible refine rd_ret ?_
  | with_reducible refine rd_nx ?_
  | ((with_reducible refine' rd_eq ?rh ?_); (case rh => exact rfl))
  | ((with_reducible refine' rd_ne ?rh ?_); (case rh => exact rfl))
  | with_reducible refine rd_add ?_
  | with_reducible refine rd_sub ?_
  | with_reducible refine rd_i0 ?_
  | with_reducible refine rd_and ?_
  | with_reducible refine rd_or ?_
  | with_reducible refine rd_not ?_
  | with_reducible refine rd_andV ?_
  | with_reducible refine rd_orV ?_
  | with_reducible refine rd_notV ?_
  | with_reducible refine rd_ifE ?_
  | with_reducible refine rd_isN ?_
  | with_reducible refine rd_notN ?_
  | with_reducible refine rd_cons ?_
  | with_reducible refine rd_nil ?_
  | with_reducible refine rd_tup ?_
  | with_reducible refine rd_lst ?_
  | with_reducible refine rd_call ?_
  | with_reducible refine rd_cb ?_
  | with_reducible refine rd_meth ?_
  | with_reducible refine rd_callS ?_
  | with_reducible refine rd_make ?_
  | with_reducible refine rd_rfl ?_
  | with_reducible refine rd_fld ?_
  | with_reducible refine rd_drop ?_
  | with_reducible refine rd_gsub ?_
  | with_reducible refine rd_gcons ?_
  | with_reducible refine rd_gnil ?_
  | with_reducible refine rd_par ?_
  | with_reducible refine rd_two ?_
  | with_reducible refine rd_par3 ?_
  | with_reducible refine rd_three ?_
  | with_reducible refine rd_int1 ?_
  | ((with_reducible refine' rd_i ?rh ?_); (case rh => walk_at "ci"))
  | with_reducible refine rd_part ?_
  | with_reducible refine rd_nopart ?_
  | with_reducible refine rd_int ?_
  | with_reducible refine rd_sl ?_
  | with_reducible refine rd_bm ?_
  | with_reducible refine rd_bm0 ?_
  | with_reducible refine rd_dgetT ?_
  | with_reducible refine rd_din ?_
  | with_reducible refine rd_dnin ?_
  | with_reducible refine rd_un ?_
  | ((with_reducible refine' rd_ixL ?rh ?re ?_); (case rh => walk_at "hp"); (case re => walk_at "at"))
  | ((with_reducible refine' rd_ixT ?rh ?re ?_); (case rh => walk_at "sq"); (case re => walk_at "at"))
  | ((with_reducible refine' rd_lenT ?rh ?_); (case rh => walk_at "sq"))
  | ((with_reducible refine' rd_tyL ?rh ?_); (case rh => walk_at "hp"))
  | ((with_reducible refine' rd_len ?rh ?_); (case rh => walk_at "hp"))
  | with_reducible refine rd_u ?_
  | ((with_reducible refine' rd_slL ?rh ?_); (case rh => walk_at "hp"))
  | with_reducible refine rd_for ?_
  | with_reducible refine rd_rng1 ?_
  | with_reducible refine rd_rng2 ?_
  | with_reducible refine rd_ints1 ?_
  | with_reducible refine rd_ints2 ?_
  | with_reducible refine rd_retN ?_)
local macro_rules | `(tactic| walk_at "rd") => `(tactic| repeat walk_at "rd1")
section
variable [KW]
variable {P : Program} {w : World} {K : PySem.W.Frag} {mg : Str → Option Value} {base : Heap}
theorem arcs_lt (ss : List Nat) : ∀ a ∈ arcsF ss, a.1 < ss.length ∧ a.2 < ss.length := fun a ha => by
  obtain ⟨h1, h2, _⟩ := arcsF_mem.mp (show (a.1, a.2) ∈ arcsF ss from ha)
  exact ⟨h1, h2⟩
theorem arcs_z {ss : List Nat} (h : ss.length ≤ 300) : (arcsF ss).length ≤ 90000 := Nat.le_trans (arcsF_len ss) (Nat.mul_le_mul h h)
/-! ### have_property -/
structure PrpP (vs : List V) (H : Hp) (Q : VK) : Prop where
  ex : ∃ (x : Str) (v : V) (ss : List Nat), vs = [.str x, .int (ss.length : Nat), v] ∧ x ≠ "classical" ∧ Is [] H (arcsD (arcsF ss)) v ∧ ss.length ≤ 300 ∧ (∀ m ∈ ss, m < 2 ^ ss.length) ∧ ∀ H', Adv [] H H' → Q (.bl (propB x ss)) H'
def spPrp : Sp := fun vs H Q _ => PrpP vs H Q
theorem str_ne {x y : Str} (h : x ≠ y) : decide (V.str x = V.str y) = false := decide_eq_false fun z => h (V.str.inj z)
theorem ok_have_property (A : All K mg w) : FnOk P w K mg base CX0 3 A.have_property.f A.have_property.fd ["logic", "worlds", "arcs"] spPrp := by
  refine A.have_property.F.ok sc_have_property (fun vs H Q E h => ?_) (fun cdv Ar outer s H vs Q E hr h => ?_)
  · obtain ⟨x, v, ss, rfl, _⟩ := h.ex
    rfl
  · obtain ⟨x, v, ss, rfl, nc, hv, hz, hlt, q⟩ := h.ex
    refine ⟨_, (pss_cons (ps_if (pt_cmpR op_eq (pv 0) pe_str (nomark _))
    (pss_one (ps_ret (pe_cmpR (op_eqD hr.units) (pv 2) (pe_lst pa_nil) (nomark _))))
    pss_nil)
  (pss_cons (ps_if (pt_cmpR op_eq (pv 0) pe_str (nomark _))
    (pss_one (ps_ret pe_bl))
    pss_nil)
  (pss_cons (ps_set (i := 3) sc_have_property.nd rfl (Or.inr rfl) (pe_call (ok_masks_of_arcs A) (hr.mono (by omega)) rfl A.masks_of_arcs.m A.masks_of_arcs.F.kp A.masks_of_arcs.b .nil pass0 (pa_cons (pv 1) (pa_cons (pv 2) pa_nil))))
  (pss_cons (ps_setLc (i := 4) (own := [("v", 6)]) (g := (gName 6)) rfl sc_have_property.nd rfl rfl (sw_true rfl rfl rfl (by decide +kernel)) (pi_range1 rfl A.T.range (pa_cons (pv 1) pa_nil)) (blkOk_by (own := [("v", 6)]) (N := ["logic", "worlds", "arcs", "masks", "loops", "many", "v"]) (sc := defScope s_have_property) (by decide +kernel)) (fun _ _ _ _ _ => pg_name (i := 6) sc_have_property.nd rfl (Or.inl rfl)) (fun _ _ _ _ _ => pts_one (pt_cmpR op_ne (pe_op op_and (pe_ix (ix_listK K rfl) (pv 3) (pv 6) (fun _ _ => rfl)) (pe_op op_shl pe_int (pv 6))) pe_int (nomark _))) (fun _ _ _ _ _ => (pv 6)))
  (pss_cons (ps_set (i := 5) sc_have_property.nd rfl (Or.inl rfl) (pe_ifExp (pt_cmpR op_eq (pv 0) pe_str (nomark _)) pe_int (pv 1)))
  (pss_one (ps_ret (pe_and (pe_cmpR op_eq (pe_callB call_len_seq (by rfl) A.T.len PySem.boot_len (pa_cons (pv 4) pa_nil)) (pv 5) (nomark _)) (pe_one (pe_call (ok_is_transitive A) (hr.mono (by omega)) rfl A.is_transitive.m A.is_transitive.F.kp A.is_transitive.b .nil pass0 (pa_cons (pv 2) (pa_cons (pv 3) pa_nil)))))))))))), ?_⟩
    walk_at "rd"
    refine iteN (str_ne nc) ?_
    walk_at "rd"
    unfold propB at q
    rw [if_neg nc] at q
    by_cases hk : x = "k"
    · subst hk
      refine iteY (decide_eq_true rfl) ?_
      walk_at "rd"
      exact q H (Adv.refl _ _)
    rw [if_neg hk] at q
    refine iteN (str_ne hk) ?_
    walk_at "rd"
    have za := arcs_z hz
    refine ⟨⟨v, arcsF ss, ss.length, rfl, hv, by omega, by omega, arcs_lt ss, fun D H1 nD hD a1 => ?_⟩⟩
    rw [masksF_arcs hlt] at hD
    walk_at "rd"
    unfold tLc
    walk_at "rd"
    refine ⟨by omega, by omega, fun D2 nD2 => ?_⟩
    refine lc_filtRl (lo := 0) (n := ((ss.length : Nat) : Int).toNat) (fun i => V.int (0 + ((i : Nat) : Int))) (fun i => (sA ss i).testBit i) nD2 (by omega) ?_ ?_
    · intro i H' acc R R0 hi aH hD2 k k0
      rw [Int.toNat_natCast] at hi
      refine ⟨rfl, ?_⟩
      rw [Int.zero_add] at k ⊢
      have hD' := aH.same _ _ hD
      walk_at "rd"
      refine ⟨D, _, (i : Nat), _, rfl, rfl, SqL.of hD', atI_nat (nVl_get? hi), ?_⟩
      walk_at "rd"
      refine rd_shl1 (by omega) (rd_band ?_)
      walk_at "rd"
      rw [and_pow, Bool.not_not]
      refine iteB (fun e => ?_) (fun e => ?_)
      · exact ⟨_, rfl, k e H' hD2 aH⟩
      · exact k0 e H' hD2 aH
    · intro H2 a2 hD2
      have eL : (((List.range ((ss.length : Nat) : Int).toNat).filter fun i => (sA ss i).testBit i).map fun i => V.int (0 + ((i : Nat) : Int))) = nVl (loopsL ss) := by
        rw [Int.toNat_natCast]
        unfold nVl loopsL
        congr 1
        funext i
        rw [Int.zero_add]
      rw [eL] at hD2
      have a12 := a1.trans a2
      have hDx := a2.same _ _ hD
      walk_at "rd"
      by_cases hg : x = "gl"
      · subst hg
        rw [if_pos rfl] at q
        refine iteY (decide_eq_true rfl) ?_
        walk_at "rd"
        rw [nVl_ln]
        have e0 : decide (V.int (((loopsL ss).length : Nat) : Int) = V.int 0) = decide ((loopsL ss).length = 0) := dec_int (b := 0)
        rw [e0]
        refine iteB (fun e => ?_) (fun e => ?_)
        · rw [e, Bool.true_and] at q
          walk_at "rd"
          exact ⟨⟨v, D, ss, rfl, hv.adv a12, hDx, hz, fun H3 a3 => q H3 (a12.trans a3)⟩⟩
        · rw [e, Bool.false_and] at q
          exact q H2 a12
      · rw [if_neg hg] at q
        refine iteN (str_ne hg) ?_
        walk_at "rd"
        rw [nVl_ln, dec_int]
        refine iteB (fun e => ?_) (fun e => ?_)
        · rw [e, Bool.true_and] at q
          walk_at "rd"
          exact ⟨⟨v, D, ss, rfl, hv.adv a12, hDx, hz, fun H3 a3 => q H3 (a12.trans a3)⟩⟩
        · rw [e, Bool.false_and] at q
          exact q H2 a12
/-! ### are_kept -/
structure KepP (vs : List V) (H : Hp) (Q : VK) : Prop where
  ex : ∃ (v u : V) (ss : List Nat) (L : Nat → Nat), vs = [.int (ss.length : Nat), v, u] ∧ Is [] H (arcsD (arcsF ss)) v ∧ Is [] H (.tuple (ltD ss.length L)) u ∧ ss.length ≤ 300 ∧ (∀ m ∈ ss, m < 2 ^ ss.length) ∧ (∀ i, L i < 2 ^ ss.length) ∧ ∀ H', Adv [] H H' → Q (.bl (keptB ss L)) H'
def spKep : Sp := fun vs H Q _ => KepP vs H Q
theorem kept_take {ss : List Nat} {L : Nat → Nat} {i : Nat} : ((List.range (i + 1)).all fun i => (bitsL ss.length (L i)).all fun v => decide (sA ss v ||| L i = L i)) = (((List.range i).all fun i => (bitsL ss.length (L i)).all fun v => decide (sA ss v ||| L i = L i)) && (bitsL ss.length (L i)).all fun v => decide (sA ss v ||| L i = L i)) := by
  rw [List.range_succ, List.all_append, List.all_cons, List.all_nil, Bool.and_true]
theorem ok_are_kept (A : All K mg w) : FnOk P w K mg base CX0 2 A.are_kept.f A.are_kept.fd ["worlds", "arcs", "letters"] spKep := by
  refine A.are_kept.F.ok sc_are_kept (fun vs H Q E h => ?_) (fun cdv Ar outer s H vs Q E hr h => ?_)
  · obtain ⟨v, u, ss, L, rfl, _⟩ := h.ex
    rfl
  · obtain ⟨v, u, ss, L, rfl, hv, hu, hz, hlt, hL, q⟩ := h.ex
    refine ⟨_, (pss_cons (ps_set (i := 3) sc_are_kept.nd rfl (Or.inr rfl) (pe_call (ok_masks_of_arcs A) (hr.mono (by omega)) rfl A.masks_of_arcs.m A.masks_of_arcs.F.kp A.masks_of_arcs.b .nil pass0 (pa_cons (pv 0) (pa_cons (pv 1) pa_nil))))
  (pss_cons (ps_for PassesOwn.never rfl (pi_tup (pv 2)) (pg_name (i := 4) sc_are_kept.nd rfl (Or.inl rfl))
    (pss_cons (ps_set (i := 5) sc_are_kept.nd rfl (Or.inr rfl) (pe_call (ok_mask_of A) (hr.mono (by omega)) rfl A.mask_of.m A.mask_of.F.kp A.mask_of.b .nil pass0 (pa_cons (pv 4) pa_nil)))
  (pss_one (ps_if (pt_not (pt_val (pe_callB (cr_all rfl) (by rfl) A.T.all (by decide +kernel) (pa_cons (pe_lc (own := [("v", 6)]) (g := (gName 6)) rfl sc_are_kept.nd (pi_list (pv 4)) (blkOk_by (own := [("v", 6)]) (N := ["worlds", "arcs", "letters", "masks", "held", "whole", "v"]) (sc := defScope s_are_kept) (by decide +kernel)) (fun _ _ _ _ _ => pg_name (i := 6) sc_are_kept.nd rfl (Or.inl rfl)) (fun _ _ _ _ _ => pts_nil) (fun _ _ _ _ _ => (pe_cmpR op_eq (pe_op op_or (pe_ix (ix_listK K rfl) (pv 3) (pv 6) (fun _ _ => rfl)) (pv 5)) (pv 5) (nomark _)))) pa_nil))))
    (pss_one (ps_ret pe_bl))
    pss_nil))))
  (pss_one (ps_ret pe_bl)))), ?_⟩
    have za := arcs_z hz
    obtain ⟨t, lets, rfl, ht, hs⟩ := hu.tupE
    have hl8 : lets.length = 8 := by rw [hs.len, ltD_len]
    walk_at "rd"
    refine ⟨⟨v, arcsF ss, ss.length, rfl, hv, by omega, by omega, arcs_lt ss, fun D H1 nD hD a1 => ?_⟩⟩
    rw [masksF_arcs hlt] at hD
    walk_at "rd"
    refine ⟨_, rfl, t, rfl, ⟨_, (ht.adv a1).sq A.W⟩, ?_⟩
    refine for_tup (a := t) (xs := lets) (fun i σ' H' => ∃ y4 y5, σ' = [some (.int (ss.length : Nat)), some v, some (.ref t), some (.ref D), y4, y5, none] ∧ ((List.range i).all fun i => (bitsL ss.length (L i)).all fun v => decide (sA ss v ||| L i = L i)) = true ∧ Adv [] H1 H') ⟨_, _, rfl, rfl, Adv.refl _ _⟩ ?_ ?_ ?_
    · rintro i σ' H' hi ⟨y4, y5, rfl, _, a⟩
      exact (ht.adv (a1.trans a)).sq A.W
    · rintro i x σ' H' hx ⟨y4, y5, rfl, hk, a⟩
      obtain ⟨h8, l, rfl, _, hl⟩ := let_at (hs.adv (a1.trans a)) hx
      have bl := bitsL_len ss.length (L i)
      have hD' := a.same _ _ hD
      walk_at "rd"
      refine ⟨l, _, rfl, hl, fun r hr => by have := (bitsL_mem.mp hr).1; omega, ?_⟩
      rw [bitsN_L (hL i)]
      walk_at "rd"
      refine ⟨_, rfl, l, rfl, ⟨_, SqL.of hl⟩, fun D2 nD2 => ?_⟩
      refine lc_natL (T := bitsL ss.length (L i)) (fun k => V.bl (decide (sA ss k ||| L i = L i))) nD2 hl (by omega) ?_ ?_
      · intro k H2 acc R hk2 aH hD2 r
        have hk3 := bitsL_mem.mp hk2
        refine ⟨rfl, ?_⟩
        walk_at "rd"
        refine ⟨D, _, (k : Nat), _, rfl, rfl, SqL.of (aH.same _ _ hD'), atI_nat (nVl_get? hk3.1), ?_⟩
        walk_at "rd"
        rw [bor, dec_int]
        exact r H2 hD2 aH
      · intro H2 a2 hD2
        refine ⟨D2, (bitsL ss.length (L i)).map fun k => decide (sA ss k ||| L i = L i), rfl, .inl (.inl (by rw [hD2, all_bl])), ?_⟩
        rw [all_id']
        walk_at "rd"
        cases e : (bitsL ss.length (L i)).all fun k => decide (sA ss k ||| L i = L i) with
        | true =>
          refine iteN rfl ?_
          walk_at "rd"
          exact ⟨_, _, rfl, by rw [kept_take, hk, e]; rfl, a.trans a2⟩
        | false =>
          refine iteY rfl ?_
          walk_at "rd"
          have q' := q H2 ((a1.trans a).trans a2)
          have ek : keptB ss L = false := by
            unfold keptB
            rw [List.all_eq_false]
            exact ⟨i, List.mem_range.mpr h8, by rw [e]; decide⟩
          rw [ek] at q'
          exact q'
    · rintro σ' H' ⟨y4, y5, rfl, hk, a⟩
      walk_at "rd"
      rw [hl8] at hk
      have q' := q H' (a1.trans a)
      have ek : keptB ss L = true := hk
      rw [ek] at q'
      exact q'
/-! ### wrong_word, check_form, check_model -/
def wordF (x : Str) (ss : List Nat) (L : Nat → Nat) : Option Str := if propB x ss = false then some "arcs" else if (decide (x = "intuit") && !keptB ss L) = true then some "letters" else none
def woV : Option Str → V
  | some z => .str z
  | none => .non
structure WrdP (vs : List V) (H : Hp) (Q : VK) : Prop where
  ex : ∃ (x : Str) (v : V) (ss : List Nat) (L : Nat → Nat), vs = [.str x, v] ∧ x ≠ "classical" ∧ RtM ss L ∧ Is [] H (modD ss L) v ∧ ∀ H', Adv [] H H' → Q (woV (wordF x ss L)) H'
def spWrd : Sp := fun vs H Q _ => WrdP vs H Q
theorem three_at {M : List Addr} {H : Hp} {a b c : PyData} {vs : List V} (h : IsDs M H [a, b, c] vs) : ∃ u v w, vs = [u, v, w] ∧ Is M H a u ∧ Is M H b v ∧ Is M H c w := by
  unfold IsDs at h
  obtain ⟨u, r, rfl, h1, h⟩ := h
  unfold IsDs at h
  obtain ⟨v, r, rfl, h2, h⟩ := h
  unfold IsDs at h
  obtain ⟨w, r, rfl, h3, h⟩ := h
  unfold IsDs at h
  subst h
  exact ⟨u, v, w, rfl, h1, h2, h3⟩
theorem ok_wrong_word (A : All K mg w) : FnOk P w K mg base CX0 6 A.wrong_word.f A.wrong_word.fd ["logic", "value"] spWrd := by
  refine A.wrong_word.F.ok sc_wrong_word (fun vs H Q E h => ?_) (fun cdv Ar outer s H vs Q E hr h => ?_)
  · obtain ⟨x, v, ss, L, rfl, _⟩ := h.ex
    rfl
  · obtain ⟨x, v, ss, L, rfl, nc, R, hv, q⟩ := h.ex
    obtain ⟨tW, mW⟩ := A.C.worlds
    refine ⟨_, (pss_cons (ps_if (pt_not (pt_val (pe_call (ok_is_tuple_of A) (hr.mono (by omega)) rfl A.is_tuple_of.m A.is_tuple_of.F.kp A.is_tuple_of.b .nil pass0 (pa_cons (pv 1) (pa_cons pe_int pa_nil)))))
    (pss_one (ps_ret pe_str))
    pss_nil)
  (pss_cons (ps_asg (pv 1) (pg_tup rfl (pgs_cons (pg_name (i := 2) sc_wrong_word.nd rfl (Or.inl rfl)) (pgs_cons (pg_name (i := 3) sc_wrong_word.nd rfl (Or.inl rfl)) (pgs_cons (pg_name (i := 4) sc_wrong_word.nd rfl (Or.inl rfl)) pgs_nil)))))
  (pss_cons (ps_if (pt_not (pt_val (pe_call (ok_is_between A) (hr.mono (by omega)) rfl A.is_between.m A.is_between.F.kp A.is_between.b .nil pass0 (pa_cons (pv 2) (pa_cons pe_int (pa_cons (pe_ifExp (pt_cmpR op_eq (pv 0) pe_str (nomark _)) pe_int (pe_glob (v := .int 256) rfl mW ⟨_, rfl⟩)) pa_nil))))))
    (pss_one (ps_ret pe_str))
    pss_nil)
  (pss_cons (ps_if (PW.pt (pw_or (pt_not (pt_val (pe_call (ok_are_arcs A) (hr.mono (by omega)) rfl A.are_arcs.m A.are_arcs.F.kp A.are_arcs.b .nil pass0 (pa_cons (pv 3) (pa_cons (pv 2) pa_nil))))) (pw_or1 (pt_not (pt_val (pe_call (ok_have_property A) (hr.mono (by omega)) rfl A.have_property.m A.have_property.F.kp A.have_property.b .nil pass0 (pa_cons (pv 0) (pa_cons (pv 2) (pa_cons (pv 3) pa_nil)))))))))
    (pss_one (ps_ret pe_str))
    pss_nil)
  (pss_cons (ps_if (PW.pt (pw_or (pt_not (pt_val (pe_call (ok_are_letters A) (hr.mono (by omega)) rfl A.are_letters.m A.are_letters.F.kp A.are_letters.b .nil pass0 (pa_cons (pv 4) (pa_cons (pv 2) pa_nil))))) (pw_or1 (PW.pt (pw_and (pt_cmpR op_eq (pv 0) pe_str (nomark _)) (pw_and1 (pt_not (pt_val (pe_call (ok_are_kept A) (hr.mono (by omega)) rfl A.are_kept.m A.are_kept.F.kp A.are_kept.b .nil pass0 (pa_cons (pv 2) (pa_cons (pv 3) (pa_cons (pv 4) pa_nil))))))))))))
    (pss_one (ps_ret pe_str))
    pss_nil)
  (pss_one (ps_ret pe_non))))))), ?_⟩
    obtain ⟨t, us, rfl, ht, hs⟩ := hv.tupE
    obtain ⟨u1, u2, u3, rfl, h1, h2, h3⟩ := three_at hs
    cases h1.intE
    have hz := R.le
    walk_at "rd"
    refine ⟨_, _, 3, rfl, hv, ?_⟩
    have e3 : tupN 3 (modD ss L) = true := rfl
    rw [e3]
    walk_at "rd"
    refine rd_gtup (ht.sq A.W) rfl ?_
    walk_at "rd"
    refine iteN (str_ne nc) ?_
    walk_at "rd"
    refine ⟨_, .int (ss.length : Nat), 1, 256, rfl, Is.int, ?_⟩
    have ew : isNum 1 256 (.int ((ss.length : Nat) : Int)) = true := by
      have := R.pos
      show (decide (1 ≤ ((ss.length : Nat) : Int)) && decide (((ss.length : Nat) : Int) ≤ 256)) = true
      rw [decide_eq_true (by omega), decide_eq_true (by omega)]; rfl
    rw [ew]
    walk_at "rd"
    have za := arcs_z (ss := ss) (by omega)
    refine ⟨⟨u2, arcsF ss, ss.length, rfl, h2, by omega, arcsF_asc ss, arcs_lt ss, fun H1 a1 => ?_⟩⟩
    walk_at "rd"
    refine ⟨⟨x, u2, ss, rfl, nc, h2.adv a1, by omega, R.lt, fun H2 a2 => ?_⟩⟩
    walk_at "rd"
    unfold wordF at q
    cases eP : propB x ss with
    | false =>
      rw [eP, if_pos rfl] at q
      refine iteY rfl ?_
      walk_at "rd"
      exact q H2 (a1.trans a2)
    | true =>
      rw [eP, if_neg (by decide)] at q
      refine iteN rfl ?_
      walk_at "rd"
      have a12 := a1.trans a2
      refine ⟨⟨u3, ss.length, L, rfl, h3.adv a12, by omega, fun H3 a3 => ?_⟩⟩
      have a13 := a12.trans a3
      walk_at "rd"
      by_cases hi : x = "intuit"
      · subst hi
        refine iteY (decide_eq_true rfl) ?_
        walk_at "rd"
        refine ⟨⟨u2, u3, ss, L, rfl, h2.adv a13, h3.adv a13, by omega, R.lt, R.ll, fun H4 a4 => ?_⟩⟩
        walk_at "rd"
        cases eK : keptB ss L with
        | true =>
          rw [eK] at q
          refine iteN rfl ?_
          walk_at "rd"
          exact q H4 (a13.trans a4)
        | false =>
          rw [eK] at q
          refine iteY rfl ?_
          walk_at "rd"
          exact q H4 (a13.trans a4)
      · refine iteN (str_ne hi) ?_
        rw [decide_eq_false hi] at q
        walk_at "rd"
        exact q H3 a13
structure ChkP (c : Addr) (vs : List V) (H : Hp) (Q : VK) (E : XK) : Prop where
  ex : ∃ (x : Str) (v : V) (ss : List Nat) (L : Nat → Nat), vs = [.str x, v] ∧ logicOk x = true ∧ x ≠ "classical" ∧ RtM ss L ∧ Is [] H (modD ss L) v ∧ (wordF x ss L = none → ∀ H', Adv [] H H' → Q .non H') ∧
    ∀ z, wordF x ss L = some z → ∀ dd H', Adv [] H H' → H dd = none → H' dd = some (.xd [("word", .str z)]) → E (.ref c) (some dd) H'
def spChk (c : Addr) : Sp := fun vs H Q E => ChkP c vs H Q E
theorem ok_check_form (A : All K mg w) (Z : Exs K mg) (Z1 : Er_BadModel Z) : FnOk P w K mg base (L2N.CX P w) 8 A.check_form.f A.check_form.fd ["logic", "model"] (spChk (Z.cA "BadModel")) := by
  refine okXN A.check_form.F sc_check_form (fun vs H Q E h => ?_) (fun cdv Ar outer s H vs Q E hr h => ?_)
  · obtain ⟨x, v, ss, L, rfl, _⟩ := h.ex
    rfl
  · obtain ⟨x, v, ss, L, rfl, lo, nc, R, hv, q1, q2⟩ := h.ex
    refine ⟨_, (pss_cons (ps_set (i := 2) sc_check_form.nd rfl (Or.inl rfl) (pe_call (ok_wrong_word A) (hr.mono (by omega)) rfl A.wrong_word.m A.wrong_word.F.kp A.wrong_word.b .nil pass0 (pa_cons (pv 0) (pa_cons (pv 1) pa_nil))))
  (pss_one (ps_if (pt_cmpR op_notN (pv 2) pe_non (nomark _))
    (pss_one (L2N.ps_raise rfl (L2N.takes_of rfl rfl rfl rfl) (pmk_initN Z1.O Z1.I Z1.T (ok_BadModel Z1) (hr.mono (by omega)) Z1.b .nil pass0 rfl (Z.mA "BadModel" (by decide)) (pa_cons (pv 2) pa_nil))))
    pss_nil))), ?_⟩
    walk_at "rd"
    refine ⟨⟨x, v, ss, L, rfl, nc, R, hv, fun H1 a1 => ?_⟩⟩
    walk_at "rd"
    cases e : wordF x ss L with
    | none => exact iteN (by decide) (q1 e H1 a1)
    | some z =>
      refine iteY (by simp [woV]) ?_
      refine ⟨_, rfl, Nat.le_of_ble_eq_true rfl, fun a na => ⟨a, .str z, rfl, upd_same, fun dx n1 n2 => ⟨rfl, dx, [("word", .str z)], upd_same, ?_, ?_, ?_⟩⟩⟩
      · rw [upd_ne n2, upd_same]
      · rw [upd_ne n2] at n1
        exact n1
      · have n1' : H1 dx = none := by rw [upd_ne n2] at n1; exact n1
        exact q2 z e dx _ (a1.trans (adv_raise na n1')) (a1.free (by simp) n1') upd_same
theorem ok_check_model (A : All K mg w) (Z : Exs K mg) (Z1 : Er_BadModel Z) : FnOk P w K mg base (L2N.CX P w) 9 A.check_model.f A.check_model.fd ["logic", "model"] (spChk (Z.cA "BadModel")) := by
  refine okXN A.check_model.F sc_check_model (fun vs H Q E h => ?_) (fun cdv Ar outer s H vs Q E hr h => ?_)
  · obtain ⟨x, v, ss, L, rfl, _⟩ := h.ex
    rfl
  · obtain ⟨x, v, ss, L, rfl, lo, nc, R, hv, q1, q2⟩ := h.ex
    refine ⟨_, (pss_cons (ps_expr (pe_call (ok_check_logic A) (hr.mono (by omega)) rfl A.check_logic.m A.check_logic.F.kp A.check_logic.b .nil pass0 (pa_cons (pv 0) pa_nil)))
  (pss_one (ps_expr (pe_callS (ok_check_form A Z Z1) (hr.mono (by omega)) rfl A.check_form.m A.check_form.F.kp A.check_form.b (L2N.passAt (L2N.takes_of rfl rfl rfl rfl)) (pa_cons (pv 0) (pa_cons (pv 1) pa_nil)))))), ?_⟩
    walk_at "rd"
    refine ⟨x, rfl, lo, ?_⟩
    walk_at "rd"
    exact ⟨⟨x, v, ss, L, rfl, lo, nc, R, hv, q1, q2⟩⟩
end
end K10

set_option Elab.async false
set_option linter.all false
set_option maxRecDepth 100000
set_option maxHeartbeats 400000
namespace K10
open PySem PySem.Spec PyProof.Rows L2 LL
open C8 (pss_cut)
local macro_rules | `(tactic| walk_at "ne") => `(tactic| first | assumption | (apply Ne.symm; assumption) | exact ne_of_none (by walk_at "hp") (by assumption) | exact (ne_of_none (by walk_at "hp") (by assumption)).symm)
local macro_rules | `(tactic| walk_at "nm") => `(tactic| first | assumption | exact notin0 | exact notin1 (by walk_at "ne") | exact notin2 (by walk_at "ne") (by walk_at "ne"))
local macro_rules | `(tactic| walk_at "hp") => `(tactic| first | assumption | exact upd_same | (refine Eq.trans (upd_ne ?ne) ?hh; (case hh => walk_at "hp"); (case ne => walk_at "ne")) | (refine Adv.get' (by assumption) ?hh ?nn; (case hh => walk_at "hp"); (case nn => walk_at "nm")))
local macro_rules | `(tactic| walk_at "tp") => `(tactic| first | assumption | exact Tp.adv (by walk_at "tp") (by assumption) | exact Tp.adv (by walk_at "tp") (Adv.nil (by assumption)))
local macro_rules | `(tactic| walk_at "sq") => `(tactic| first | assumption | exact Tp.sq (by assumption) (by walk_at "tp") | exact SqT.of (by walk_at "hp"))
local macro_rules | `(tactic| walk_at "at") => `(tactic| first | exact atI_nat (j := 0) rfl | exact atI_nat (j := 1) rfl | exact atI_nat (j := 2) rfl | exact atI_nat (j := 3) rfl | exact atI_nat (by assumption) | (rw [Int.zero_add]; exact atI_nat (by assumption)))
local macro_rules | `(tactic| walk_at "bb") => `(tactic| first | assumption | decide | exact rfl)
local macro_rules | `(tactic| walk_at "ci") => `(tactic| first | omega | (dsimp only; omega) | (unfold CDiv; omega) | (unfold CMul; omega))
local macro_rules | `(tactic| walk_at "rd1") => `(tactic| first
  | with_reducible refine rd_c ?_
  | ((with_reducible refine' rd_var ?rh ?_); (case rh => exact rfl))
  | with_reducible refine rd_op ?_
  | with_reducible refine rd_seq ?_
  | with_reducible refine rd_asg ?_
  | with_reducible refine rd_gname ?_
  | with_reducible refine rd_ifS ?_
  | with_reducible refine rd_test ?_
  | with_reducible refine rd_tB ?_
  | with_reducible refine rd_blP ?_
  | ((with_reducible refine' iteY ?rh ?_); (case rh => walk_at "bb"))
  | ((with_reducible refine' iteN ?rh ?_); (case rh => walk_at "bb"))
  | with_reducible refine rd_ret ?_
  | with_reducible refine rd_nx ?_
  | ((with_reducible refine' rd_eq ?rh ?_); (case rh => exact rfl))
  | ((with_reducible refine' rd_ne ?rh ?_); (case rh => exact rfl))
  | with_reducible refine rd_add ?_
  | with_reducible refine rd_sub ?_
  | with_reducible refine rd_i0 ?_
  | with_reducible refine rd_and ?_
  | with_reducible refine rd_or ?_
  | with_reducible refine rd_not ?_
  | with_reducible refine rd_andV ?_
  | with_reducible refine rd_orV ?_
  | with_reducible refine rd_notV ?_
  | with_reducible refine rd_ifE ?_
  | with_reducible refine rd_isN ?_
  | with_reducible refine rd_notN ?_
  | with_reducible refine rd_cons ?_
  | with_reducible refine rd_nil ?_
  | with_reducible refine rd_tup ?_
  | with_reducible refine rd_lst ?_
  | with_reducible refine rd_call ?_
  | with_reducible refine rd_cb ?_
  | with_reducible refine rd_meth ?_
  | with_reducible refine rd_callS ?_
  | with_reducible refine rd_make ?_
  | with_reducible refine rd_rfl ?_
  | with_reducible refine rd_fld ?_
  | with_reducible refine rd_drop ?_
  | with_reducible refine rd_gsub ?_
  | with_reducible refine rd_gcons ?_
  | with_reducible refine rd_gnil ?_
  | with_reducible refine rd_par ?_
  | with_reducible refine rd_two ?_
  | with_reducible refine rd_par3 ?_
  | with_reducible refine rd_three ?_
  | with_reducible refine rd_int1 ?_
  | ((with_reducible refine' rd_i ?rh ?_); (case rh => walk_at "ci"))
  | with_reducible refine rd_part ?_
  | with_reducible refine rd_nopart ?_
  | with_reducible refine rd_int ?_
  | with_reducible refine rd_sl ?_
  | with_reducible refine rd_bm ?_
  | with_reducible refine rd_bm0 ?_
  | with_reducible refine rd_dgetT ?_
  | with_reducible refine rd_din ?_
  | with_reducible refine rd_dnin ?_
  | with_reducible refine rd_un ?_
  | ((with_reducible refine' rd_ixL ?rh ?re ?_); (case rh => walk_at "hp"); (case re => walk_at "at"))
  | ((with_reducible refine' rd_ixT ?rh ?re ?_); (case rh => walk_at "sq"); (case re => walk_at "at"))
  | ((with_reducible refine' rd_lenT ?rh ?_); (case rh => walk_at "sq"))
  | ((with_reducible refine' rd_tyL ?rh ?_); (case rh => walk_at "hp"))
  | ((with_reducible refine' rd_len ?rh ?_); (case rh => walk_at "hp"))
  | with_reducible refine rd_u ?_
  | ((with_reducible refine' rd_slL ?rh ?_); (case rh => walk_at "hp"))
  | with_reducible refine rd_for ?_
  | with_reducible refine rd_rng1 ?_
  | with_reducible refine rd_rng2 ?_
  | with_reducible refine rd_ints1 ?_
  | with_reducible refine rd_ints2 ?_
  | with_reducible refine rd_retN ?_)
local macro_rules | `(tactic| walk_at "rd") => `(tactic| repeat walk_at "rd1")
section
variable [KW]
variable {P : Program} {w : World} {K : PySem.W.Frag} {mg : Str → Option Value} {base : Heap}
/-! ### check_rows_of, a right sheet -/
structure RowsP (vs : List V) (H : Hp) (Q : VK) : Prop where
  ex : ∃ (v : V) (ns : List Nd) (most : Nat) (bx : Bool), vs = [v, .int (most : Nat), .bl bx] ∧ Is [] H (.list (ns.map Nd.data)) v ∧ okSheet bx ns ∧ ns.length ≤ most ∧ most ≤ 10000 ∧ ∀ H', Adv [] H H' → Q .non H'
def spRowsOf : Sp := fun vs H Q _ => RowsP vs H Q
theorem ok_check_rows_of (A : All K mg w) : FnOk P w K mg base CX0 5 A.check_rows_of.f A.check_rows_of.fd ["sheet", "most", "boxed"] spRowsOf := by
  refine A.check_rows_of.F.ok sc_check_rows_of (fun vs H Q E h => ?_) (fun cdv Ar outer s H vs Q E hr h => ?_)
  · obtain ⟨v, ns, most, bx, rfl, _⟩ := h.ex
    rfl
  · obtain ⟨v, ns, most, bx, rfl, hv, ok, hl, hm, q⟩ := h.ex
    refine ⟨_, (pss_cons (ps_set (i := 3) sc_check_rows_of.nd rfl (Or.inl rfl) (pe_call (ok_wrong_row A) (hr.mono (by omega)) rfl A.wrong_row.m A.wrong_row.F.kp A.wrong_row.b .nil pass0 (pa_cons (pv 0) (pa_cons (pv 1) (pa_cons (pv 2) pa_nil)))))
  (pss_one (ps_if (pt_cmpR op_notN (pv 3) pe_non (nomark _))
    (pss_one ps_never)
    pss_nil))), ?_⟩
    walk_at "rd"
    refine ⟨v, _, (most : Nat), bx, rfl, hv, by omega, fun ds e => ?_, fun H1 a1 => ?_⟩
    · injection e with e
      rw [← e, List.length_map]
      omega
    walk_at "rd"
    rw [wrongD_ok ok (by omega)]
    exact iteN (by decide) (q H1 a1)
/-! ### masks_behind, letter_masks -/
structure MbhP (vs : List V) (H : Hp) (Q : VK) : Prop where
  ex : ∃ (v : V) (ss : List Nat) (L : Nat → Nat), vs = [v] ∧ RtM ss L ∧ Is [] H (modD ss L) v ∧ ∀ D H', H D = none → H' D = some (.lst (nVl ss)) → Adv [] H H' → Q (.ref D) H'
def spMbh : Sp := fun vs H Q _ => MbhP vs H Q
theorem ok_masks_behind (A : All K mg w) : FnOk P w K mg base CX0 2 A.masks_behind.f A.masks_behind.fd ["model"] spMbh := by
  refine A.masks_behind.F.ok sc_masks_behind (fun vs H Q E h => ?_) (fun cdv Ar outer s H vs Q E hr h => ?_)
  · obtain ⟨v, ss, L, rfl, _⟩ := h.ex
    rfl
  · obtain ⟨v, ss, L, rfl, R, hv, q⟩ := h.ex
    refine ⟨_, (pss_one (ps_ret (pe_call (ok_masks_of_arcs A) (hr.mono (by omega)) rfl A.masks_of_arcs.m A.masks_of_arcs.F.kp A.masks_of_arcs.b .nil pass0 (pa_cons (pe_ix ix_tup (pv 0) pe_int (fun _ _ => rfl)) (pa_cons (pe_ix ix_tup (pv 0) pe_int (fun _ _ => rfl)) pa_nil))))), ?_⟩
    obtain ⟨t, us, rfl, ht, hs⟩ := hv.tupE
    obtain ⟨u1, u2, u3, rfl, h1, h2, h3⟩ := three_at hs
    cases h1.intE
    have hz := R.le
    have za := arcs_z (ss := ss) (by omega)
    have sq := ht.sq A.W
    walk_at "rd"
    refine ⟨⟨u2, arcsF ss, ss.length, rfl, h2, by omega, by omega, arcs_lt ss, fun D H1 nD hD a1 => ?_⟩⟩
    rw [masksF_arcs R.lt] at hD
    exact q D H1 nD hD a1
structure LmkP (vs : List V) (H : Hp) (Q : VK) : Prop where
  ex : ∃ (v : V) (ss : List Nat) (L : Nat → Nat), vs = [v] ∧ RtM ss L ∧ Is [] H (modD ss L) v ∧ ∀ D H', H D = none → H' D = some (.lst (nVl ((List.range 8).map L))) → Adv [] H H' → Q (.ref D) H'
def spLmk : Sp := fun vs H Q _ => LmkP vs H Q
theorem ok_letter_masks (A : All K mg w) : FnOk P w K mg base CX0 2 A.letter_masks.f A.letter_masks.fd ["model"] spLmk := by
  refine A.letter_masks.F.ok sc_letter_masks (fun vs H Q E h => ?_) (fun cdv Ar outer s H vs Q E hr h => ?_)
  · obtain ⟨v, ss, L, rfl, _⟩ := h.ex
    rfl
  · obtain ⟨v, ss, L, rfl, R, hv, q⟩ := h.ex
    refine ⟨_, (pss_one (ps_ret (pe_lc (own := [("held", 1)]) (g := (gName 1)) rfl sc_letter_masks.nd (pi_tup (pe_ix ix_tup (pv 0) pe_int (fun _ _ => rfl))) (blkOk_by (own := [("held", 1)]) (N := ["model", "held"]) (sc := defScope s_letter_masks) (by decide +kernel)) (fun _ _ _ _ _ => pg_name (i := 1) sc_letter_masks.nd rfl (Or.inl rfl)) (fun _ _ _ _ _ => pts_nil) (fun _ _ _ _ _ => (pe_call (ok_mask_of A) (hr.mono (by omega)) rfl A.mask_of.m A.mask_of.F.kp A.mask_of.b .nil pass0 (pa_cons (pv 1) pa_nil)))))), ?_⟩
    obtain ⟨t, us, rfl, ht, hs⟩ := hv.tupE
    obtain ⟨u1, u2, u3, rfl, h1, h2, h3⟩ := three_at hs
    have hz := R.le
    have sq := ht.sq A.W
    obtain ⟨lt, lets, rfl, hlt, hsl⟩ := h3.tupE
    have hl8 : lets.length = 8 := by rw [hsl.len, ltD_len]
    walk_at "rd"
    unfold tLc iTup
    walk_at "rd"
    refine ⟨lt, rfl, ⟨_, hlt.sq A.W⟩, fun D nD => ?_⟩
    refine lc_mapT (K := K) (a := lt) (xs := lets) (fun i => V.int (L i : Nat)) nD (hlt.sq A.W) (by omega) ?_ ?_
    · intro i x H' acc R' hx aH hD k
      obtain ⟨h8, l, rfl, _, hl⟩ := let_at (hsl.adv aH) hx
      refine ⟨rfl, ?_⟩
      walk_at "rd"
      refine ⟨l, _, rfl, hl, fun r hr => by have := (bitsL_mem.mp hr).1; omega, ?_⟩
      rw [bitsN_L (R.ll i)]
      exact k H' hD aH
    · intro H1 a1 hD
      refine q D H1 nD ?_ a1
      rw [hD, hl8]
      unfold nVl
      rw [List.map_map]
      rfl
/-! ### boxed_mask -/
def bmF (ss : List Nat) (h i : Nat) : Nat := bitsN ((List.range i).filter fun v => decide (sA ss v ||| h = h))
structure BmkP (vs : List V) (H : Hp) (Q : VK) : Prop where
  ex : ∃ (l : Addr) (ss : List Nat) (h : Nat), vs = [.ref l, .int (h : Nat)] ∧ H l = some (.lst (nVl ss)) ∧ ss.length ≤ 400 ∧ ∀ H', Adv [] H H' → Q (.int (boxM ss h : Nat)) H'
def spBmk : Sp := fun vs H Q _ => BmkP vs H Q
theorem ok_boxed_mask (A : All K mg w) : FnOk P w K mg base CX0 1 A.boxed_mask.f A.boxed_mask.fd ["masks", "held"] spBmk := by
  refine A.boxed_mask.F.ok sc_boxed_mask (fun vs H Q E h => ?_) (fun cdv Ar outer s H vs Q E hr h => ?_)
  · obtain ⟨l, ss, g, rfl, _⟩ := h.ex
    rfl
  · obtain ⟨l, ss, g, rfl, hl, hz, q⟩ := h.ex
    refine ⟨_, (pss_cons (ps_set (i := 2) sc_boxed_mask.nd rfl (Or.inl rfl) pe_int)
  (pss_cons (ps_for PassesOwn.never rfl (pi_enum (by rfl) A.T.enumerate (pa_cons (pv 0) pa_nil)) (pg_tup rfl (pgs_cons (pg_name (i := 3) sc_boxed_mask.nd rfl (Or.inl rfl)) (pgs_cons (pg_name (i := 4) sc_boxed_mask.nd rfl (Or.inl rfl)) pgs_nil)))
    (pss_one (ps_if (pt_cmpR op_eq (pe_op op_or (pv 4) (pv 1)) (pv 1) (nomark _))
    (pss_one (ps_set (i := 2) sc_boxed_mask.nd rfl (Or.inl rfl) (pe_op op_or (pv 2) (pe_op op_shl pe_int (pv 3)))))
    pss_nil)))
  (pss_one (ps_ret (pv 2))))), ?_⟩
    walk_at "rd"
    unfold iEnum
    walk_at "rd"
    refine ⟨l, _, rfl, SqL.of hl, ?_⟩
    refine for_enum (K := K) (a := l) (xs := nVl ss) (fun i σ' H' => ∃ y3 y4, σ' = [some (.ref l), some (.int (g : Nat)), some (.int (bmF ss g i : Nat)), y3, y4] ∧ Adv [] H H') ⟨_, _, rfl, Adv.refl _ _⟩ (fun i σ' H' _ ⟨_, _, _, a⟩ => a.same _ _ hl) ?_ ?_
    · rintro i x T σ' H1 hx ⟨y3, y4, rfl, a⟩ nT
      obtain ⟨m, hm, rfl⟩ := nVl_gt hx
      have aT : Adv [] H1 (upd H1 T (.tup [.int (i : Nat), .int (m : Nat)])) := Adv.new nT
      obtain ⟨hi, em⟩ := List.getElem?_eq_some_iff.mp hm
      have es : sA ss i = m := by unfold sA; rw [List.getD_eq_getElem?_getD, hm]; rfl
      refine rd_gtup (SqT.of upd_same) rfl ?_
      walk_at "rd"
      rw [bor, dec_int]
      have eb : bmF ss g (i + 1) = if decide (m ||| g = g) = true then bmF ss g i ||| 2 ^ i else bmF ss g i := by
        unfold bmF
        rw [List.range_succ, List.filter_append, List.filter_cons, es]
        split
        · rw [List.filter_nil, bitsN_snoc]
        · rw [List.filter_nil, List.append_nil]
      refine iteB (fun e => ?_) (fun e => ?_)
      · rw [if_pos e] at eb
        walk_at "rd"
        refine rd_shl1 (by omega) (rd_bor ?_)
        walk_at "rd"
        exact ⟨_, _, by rw [eb]; rfl, a.trans aT⟩
      · rw [if_neg (by rw [e]; decide)] at eb
        walk_at "rd"
        exact ⟨_, _, by rw [eb]; rfl, a.trans aT⟩
    · rintro σ' H1 ⟨y3, y4, rfl, a⟩
      walk_at "rd"
      have q' := q H1 a
      have e : bmF ss g (nVl ss).length = boxM ss g := by rw [nVl_ln]; rfl
      rw [e]
      exact q'
/-! ### truth_masks -/
theorem bxor (a b : Nat) : Builtin.bitXor (a : Int) (b : Int) = ((a ^^^ b : Nat) : Int) := by
  rw [Bits.bitXor_pp (by omega) (by omega), Int.toNat_natCast, Int.toNat_natCast]
theorem every_int (n : Nat) : ((2 ^ n : Nat) : Int) - 1 = ((every n : Nat) : Int) := by
  have := Nat.two_pow_pos n
  unfold every
  omega
theorem tmF_snoc (b : Bool) (ss : List Nat) (L : Nat → Nat) (l : List Nd) (n : Nd) : tmF b ss L (l ++ [n]) = tmF b ss L l ++ [tmS b ss L (tmF b ss L l) n] := by
  unfold tmF
  rw [List.foldl_append]
  rfl
theorem tmF_len (b : Bool) (ss : List Nat) (L : Nat → Nat) (l : List Nd) : (tmF b ss L l).length = l.length := by
  induction l using rev_ind with
  | h0 => rfl
  | hs l n ih => rw [tmF_snoc, List.length_append, List.length_append, ih]; rfl
def wdN : Nd → Str
  | .no => "no"
  | .letter _ => "letter"
  | .bin o _ _ => o.str
  | .box _ => "box"
theorem wdN_at (n : Nd) : (n.keys.map kV)[0]? = some (.str (wdN n)) := by cases n <;> rfl
structure TmP (vs : List V) (H : Hp) (Q : VK) : Prop where
  ex : ∃ (x : Str) (v : V) (sh : Addr) (rs : List V) (ss : List Nat) (L : Nat → Nat) (ns : List Nd) (bx : Bool), vs = [.str x, v, .ref sh] ∧ RtM ss L ∧ Is [] H (modD ss L) v ∧ H sh = some (.lst rs) ∧ IsDs [] H (ns.map Nd.data) rs ∧ okSheet bx ns ∧ ns.length ≤ 10000 ∧
    ∀ D H', H D = none → H' D = some (.lst (nVl (tmF (decide (x = "intuit")) ss L ns))) → Adv [] H H' → Q (.ref D) H'
def spTm : Sp := fun vs H Q _ => TmP vs H Q
theorem ok_truth_masks (A : All K mg w) : FnOk P w K mg base CX0 3 A.truth_masks.f A.truth_masks.fd ["logic", "model", "sheet"] spTm := by
  refine A.truth_masks.F.ok sc_truth_masks (fun vs H Q E h => ?_) (fun cdv Ar outer s H vs Q E hr h => ?_)
  · obtain ⟨x, v, sh, rs, ss, L, ns, bx, rfl, _⟩ := h.ex
    rfl
  · obtain ⟨x, v, sh, rs, ss, L, ns, bx, rfl, R, hv, hsh, hds, ok, hnl, q⟩ := h.ex
    refine ⟨_, (pss_cons (ps_set (i := 3) sc_truth_masks.nd rfl (Or.inl rfl) (pe_call (ok_masks_behind A) (hr.mono (by omega)) rfl A.masks_behind.m A.masks_behind.F.kp A.masks_behind.b .nil pass0 (pa_cons (pv 1) pa_nil)))
  (pss_cons (ps_set (i := 4) sc_truth_masks.nd rfl (Or.inl rfl) (pe_call (ok_letter_masks A) (hr.mono (by omega)) rfl A.letter_masks.m A.letter_masks.F.kp A.letter_masks.b .nil pass0 (pa_cons (pv 1) pa_nil)))
  (pss_cons (ps_set (i := 5) sc_truth_masks.nd rfl (Or.inl rfl) (pe_op op_sub (pe_op op_shl pe_int (pe_ix ix_tup (pv 1) pe_int (fun _ _ => rfl))) pe_int))
  (pss_cons (ps_set (i := 6) sc_truth_masks.nd rfl (Or.inl rfl) (pe_lst pa_nil))
  (pss_cons (ps_for PassesOwn.never rfl (pi_list (pv 2)) (pg_name (i := 7) sc_truth_masks.nd rfl (Or.inl rfl))
    (pss_cons (ps_set (i := 8) sc_truth_masks.nd rfl (Or.inl rfl) (pe_ix ix_tup (pv 7) pe_int (fun _ _ => rfl)))
  (pss_cut (ps_if (pt_cmpR op_eq (pv 8) pe_str (nomark _))
    (pss_one (ps_set (i := 9) sc_truth_masks.nd rfl (Or.inl rfl) (pe_ix ix_list (pv 4) (pe_ix ix_tup (pv 7) pe_int (fun _ _ => rfl)) (fun _ _ => rfl))))
    (pss_one (ps_if (pt_cmpR op_eq (pv 8) pe_str (nomark _))
    (pss_one (ps_set (i := 9) sc_truth_masks.nd rfl (Or.inl rfl) pe_int))
    (pss_one (ps_if (pt_cmpR op_eq (pv 8) pe_str (nomark _))
    (pss_one (ps_set (i := 9) sc_truth_masks.nd rfl (Or.inl rfl) (pe_op op_and (pe_ix ix_list (pv 6) (pe_ix ix_tup (pv 7) pe_int (fun _ _ => rfl)) (fun _ _ => rfl)) (pe_ix ix_list (pv 6) (pe_ix ix_tup (pv 7) pe_int (fun _ _ => rfl)) (fun _ _ => rfl)))))
    (pss_one (ps_if (pt_cmpR op_eq (pv 8) pe_str (nomark _))
    (pss_one (ps_set (i := 9) sc_truth_masks.nd rfl (Or.inl rfl) (pe_op op_or (pe_ix ix_list (pv 6) (pe_ix ix_tup (pv 7) pe_int (fun _ _ => rfl)) (fun _ _ => rfl)) (pe_ix ix_list (pv 6) (pe_ix ix_tup (pv 7) pe_int (fun _ _ => rfl)) (fun _ _ => rfl)))))
    (pss_one (ps_if (pt_cmpR op_eq (pv 8) pe_str (nomark _))
    (pss_one (ps_set (i := 9) sc_truth_masks.nd rfl (Or.inl rfl) (pe_call (ok_boxed_mask A) (hr.mono (by omega)) rfl A.boxed_mask.m A.boxed_mask.F.kp A.boxed_mask.b .nil pass0 (pa_cons (pv 3) (pa_cons (pe_ix ix_list (pv 6) (pe_ix ix_tup (pv 7) pe_int (fun _ _ => rfl)) (fun _ _ => rfl)) pa_nil)))))
    (pss_cons (ps_set (i := 9) sc_truth_masks.nd rfl (Or.inl rfl) (pe_op op_or (pe_op op_xor (pv 5) (pe_ix ix_list (pv 6) (pe_ix ix_tup (pv 7) pe_int (fun _ _ => rfl)) (fun _ _ => rfl))) (pe_ix ix_list (pv 6) (pe_ix ix_tup (pv 7) pe_int (fun _ _ => rfl)) (fun _ _ => rfl))))
  (pss_one (ps_if (pt_cmpR op_eq (pv 0) pe_str (nomark _))
    (pss_one (ps_set (i := 9) sc_truth_masks.nd rfl (Or.inl rfl) (pe_call (ok_boxed_mask A) (hr.mono (by omega)) rfl A.boxed_mask.m A.boxed_mask.F.kp A.boxed_mask.b .nil pass0 (pa_cons (pv 3) (pa_cons (pv 9) pa_nil)))))
    pss_nil))))))))))))
  (pss_one (ps_expr (pe_bm PySem.F.plainAttrs_list PySem.F.slot_list_append PySem.F.type_list_append mt_append (pv 6) (pa_cons (pv 9) pa_nil)))))))
  (pss_one (ps_ret (pv 6)))))))), ?_⟩
    have hrl := hds.len
    rw [List.length_map] at hrl
    have hz := R.le
    walk_at "rd"
    refine ⟨⟨v, ss, L, rfl, R, hv, fun D H1 nD hD a1 => ?_⟩⟩
    walk_at "rd"
    refine ⟨⟨v, ss, L, rfl, R, hv.adv a1, fun D2 H2 nD2 hD2 a2 => ?_⟩⟩
    have a12 := a1.trans a2
    have hD' := a2.same _ _ hD
    obtain ⟨t, us, rfl, ht, hs⟩ := (hv.adv a12).tupE
    obtain ⟨u1, u2, u3, rfl, h1, h2, h3⟩ := three_at hs
    cases h1.intE
    have sq := ht.sq A.W
    walk_at "rd"
    refine rd_shl1 (by omega) ?_
    walk_at "rd"
    rw [every_int]
    refine ⟨Nat.zero_le _, fun f nf => ?_⟩
    have nf0 : H f = none := a12.free (by simp) nf
    have a0 := a12.newT (o := .lst []) nf
    have fD : D ≠ f := ne_of_none hD' nf
    have fD2 : D2 ≠ f := ne_of_none hD2 nf
    walk_at "rd"
    refine ⟨_, rfl, sh, rfl, ⟨_, SqL.of (a0.same _ _ hsh)⟩, ?_⟩
    refine for_list (a := sh) (xs := rs) (fun i σ' H' => ∃ y7 y8 y9, σ' = [some (.str x), some (.ref t), some (.ref sh), some (.ref D), some (.ref D2), some (.int (every ss.length : Nat)), some (.ref f), y7, y8, y9] ∧ H' f = some (.lst (nVl (tmF (decide (x = "intuit")) ss L (ns.take i)))) ∧ H' D = some (.lst (nVl ss)) ∧ H' D2 = some (.lst (nVl ((List.range 8).map L))) ∧ Adv [] H H')
      ⟨_, _, _, rfl, upd_same, by rw [upd_ne fD]; exact hD', by rw [upd_ne fD2]; exact hD2, a0⟩ ?_ ?_ ?_
    · rintro i σ' H' hi ⟨y7, y8, y9, rfl, hf, h1, h2, a⟩
      exact SqL.of (a.same _ _ hsh)
    · rintro i xv σ' H3 hx ⟨y7, y8, y9, rfl, hf, g1, g2, a⟩
      obtain ⟨d, hd, hi⟩ := hds.getV hx
      rw [List.getElem?_map, Option.map_eq_some_iff] at hd
      obtain ⟨n, hn, rfl⟩ := hd
      obtain ⟨b, rfl, hb⟩ := nd_is (hi.adv a)
      have sqb := hb.sq A.W
      have nok := ok.2 i n hn
      have il : i < ns.length := (List.getElem?_eq_some_iff.mp hn).1
      have tl : (tmF (decide (x = "intuit")) ss L (ns.take i)).length = i := by rw [tmF_len, List.length_take]; omega
      have et : tmF (decide (x = "intuit")) ss L (ns.take (i + 1)) = tmF (decide (x = "intuit")) ss L (ns.take i) ++ [tmS (decide (x = "intuit")) ss L (tmF (decide (x = "intuit")) ss L (ns.take i)) n] := by rw [take_snc hn, tmF_snoc]
      generalize tmF (decide (x = "intuit")) ss L (ns.take i) = F at hf tl et
      have at_ : ∀ j, j < i → atI (nVl F) ((j : Nat) : Int) = some (.int (sA F j : Nat)) := fun j hj => atI_nat (nVl_get? (by omega))
      walk_at "rd"
      refine rd_ixT sqb (atI_nat (j := 0) (wdN_at n)) ?_
      walk_at "rd"
      refine ⟨fun σ' H' => ∃ y8, σ' = [some (.str x), some (.ref t), some (.ref sh), some (.ref D), some (.ref D2), some (.int (every ss.length : Nat)), some (.ref f), some (.ref b), y8, some (.int (tmS (decide (x = "intuit")) ss L F n : Nat))] ∧ Adv [] H3 H', ?_, ?_⟩
      · cases n with
        | letter j =>
          have j7 : j ≤ 7 := of_decide_eq_true nok
          have e1 : (nVl ((List.range 8).map L))[j]? = some (.int (L j : Nat)) := by
            unfold nVl
            rw [List.getElem?_map, List.getElem?_map, List.getElem?_range (by omega)]
            rfl
          have sqb' : SqT K H3 b [.str "letter", .int (j : Nat)] := sqb
          walk_at "rd"
          exact ⟨_, rfl, Adv.refl _ _⟩
        | no =>
          walk_at "rd"
          exact ⟨_, rfl, Adv.refl _ _⟩
        | box j =>
          have hj : j < i := by
            have nok : (bx && decide (j < i)) = true := nok
            rw [Bool.and_eq_true] at nok
            exact of_decide_eq_true nok.2
          have e1 := nVl_get? (l := F) (i := j) (by omega)
          have sqb' : SqT K H3 b [.str "box", .int (j : Nat)] := sqb
          walk_at "rd"
          refine ⟨⟨D, ss, _, rfl, g1, by omega, fun H4 a4 => ?_⟩⟩
          walk_at "rd"
          exact ⟨_, rfl, a4⟩
        | bin o j k =>
          have nok : (decide (j < i) && decide (k < i)) = true := nok
          rw [Bool.and_eq_true] at nok
          have hj : j < i := of_decide_eq_true nok.1
          have hk : k < i := of_decide_eq_true nok.2
          have e1 := nVl_get? (l := F) (i := j) (by omega)
          have e2 := nVl_get? (l := F) (i := k) (by omega)
          have sqb' : SqT K H3 b [.str o.str, .int (j : Nat), .int (k : Nat)] := sqb
          cases o with
          | and =>
            walk_at "rd"
            rw [band]
            exact ⟨_, rfl, Adv.refl _ _⟩
          | or =>
            walk_at "rd"
            rw [bor]
            exact ⟨_, rfl, Adv.refl _ _⟩
          | imp =>
            walk_at "rd"
            rw [bxor, bor]
            by_cases hi : x = "intuit"
            · subst hi
              refine iteY (by decide) ?_
              walk_at "rd"
              refine ⟨⟨D, ss, _, rfl, g1, by omega, fun H4 a4 => ?_⟩⟩
              walk_at "rd"
              exact ⟨_, rfl, a4⟩
            · refine iteN (str_ne hi) ?_
              walk_at "rd"
              rw [decide_eq_false hi]
              exact ⟨_, rfl, Adv.refl _ _⟩
      · rintro σ' H4 ⟨y8, rfl, a4⟩
        have hf4 := a4.same _ _ hf
        walk_at "rd"
        refine rd_app hf4 (by rw [nVl_ln, sizeLine_eq]; omega) ?_
        walk_at "rd"
        refine ⟨_, _, _, rfl, ?_, ?_, ?_, (a.trans a4).mut nf0⟩
        · rw [upd_same, et]
          unfold nVl
          rw [List.map_append]
          rfl
        · rw [upd_ne fD]; exact a4.same _ _ g1
        · rw [upd_ne fD2]; exact a4.same _ _ g2
    · rintro σ' H3 ⟨y7, y8, y9, rfl, hf, g1, g2, a⟩
      rw [hrl, List.take_length] at hf
      walk_at "rd"
      exact q f H3 nf0 hf a
end
end K10

set_option Elab.async false
set_option linter.all false
set_option maxRecDepth 100000
set_option maxHeartbeats 400000
namespace K10
open PySem PySem.Spec PyProof.Rows L2 LL
open C8 (pss_cut)
local macro_rules | `(tactic| walk_at "ne") => `(tactic| first | assumption | (apply Ne.symm; assumption) | exact ne_of_none (by walk_at "hp") (by assumption) | exact (ne_of_none (by walk_at "hp") (by assumption)).symm)
local macro_rules | `(tactic| walk_at "nm") => `(tactic| first | assumption | exact notin0 | exact notin1 (by walk_at "ne") | exact notin2 (by walk_at "ne") (by walk_at "ne"))
local macro_rules | `(tactic| walk_at "hp") => `(tactic| first | assumption | exact upd_same | (refine Eq.trans (upd_ne ?ne) ?hh; (case hh => walk_at "hp"); (case ne => walk_at "ne")) | (refine Adv.get' (by assumption) ?hh ?nn; (case hh => walk_at "hp"); (case nn => walk_at "nm")))
local macro_rules | `(tactic| walk_at "tp") => `(tactic| first | assumption | exact Tp.adv (by walk_at "tp") (by assumption) | exact Tp.adv (by walk_at "tp") (Adv.nil (by assumption)))
local macro_rules | `(tactic| walk_at "sq") => `(tactic| first | assumption | exact Tp.sq (by assumption) (by walk_at "tp") | exact SqT.of (by walk_at "hp"))
local macro_rules | `(tactic| walk_at "at") => `(tactic| first | exact atI_nat (j := 0) rfl | exact atI_nat (j := 1) rfl | exact atI_nat (j := 2) rfl | exact atI_nat (j := 3) rfl | exact atI_nat (by assumption) | (rw [Int.zero_add]; exact atI_nat (by assumption)))
local macro_rules | `(tactic| walk_at "bb") => `(tactic| first | assumption | decide | exact rfl)
local macro_rules | `(tactic| walk_at "ci") => `(tactic| first | omega | (dsimp only; omega) | (unfold CDiv; omega) | (unfold CMul; omega))
local macro_rules | `(tactic| walk_at "rd1") => `(tactic| first
  | with_reducible refine rd_c ?_
  | ((with_reducible refine' rd_var ?rh ?_); (case rh => exact rfl))
  | with_reducible refine rd_op ?_
  | with_reducible refine rd_seq ?_
  | with_reducible refine rd_asg ?_
  | with_reducible refine rd_gname ?_
  | with_reducible refine rd_ifS ?_
  | with_reducible refine rd_test ?_
  | with_reducible refine rd_tB ?_
  | with_reducible refine rd_blP ?_
  | ((with_reducible refine' iteY ?rh ?_); (case rh => walk_at "bb"))
  | ((with_reducible refine' iteN ?rh ?_); (case rh => walk_at "bb"))
  | with_reducible refine rd_ret ?_
  | with_reducible refine rd_nx ?_
  | ((with_reducible refine' rd_eq ?rh ?_); (case rh => exact rfl))
  | ((with_reducible refine' rd_ne ?rh ?_); (case rh => exact rfl))
  | with_reducible refine rd_add ?_
  | with_reducible refine rd_sub ?_
  | with_reducible refine rd_i0 ?_
  | with_reducible refine rd_and ?_
  | with_reducible refine rd_or ?_
  | with_reducible refine rd_not ?_
  | with_reducible refine rd_andV ?_
  | with_reducible refine rd_orV ?_
  | with_reducible refine rd_notV ?_
  | with_reducible refine rd_ifE ?_
  | with_reducible refine rd_isN ?_
  | with_reducible refine rd_notN ?_
  | with_reducible refine rd_cons ?_
  | with_reducible refine rd_nil ?_
  | with_reducible refine rd_tup ?_
  | with_reducible refine rd_lst ?_
  | with_reducible refine rd_call ?_
  | with_reducible refine rd_cb ?_
  | with_reducible refine rd_meth ?_
  | with_reducible refine rd_callS ?_
  | with_reducible refine rd_make ?_
  | with_reducible refine rd_rfl ?_
  | with_reducible refine rd_fld ?_
  | with_reducible refine rd_drop ?_
  | with_reducible refine rd_gsub ?_
  | with_reducible refine rd_gcons ?_
  | with_reducible refine rd_gnil ?_
  | with_reducible refine rd_par ?_
  | with_reducible refine rd_two ?_
  | with_reducible refine rd_par3 ?_
  | with_reducible refine rd_three ?_
  | with_reducible refine rd_int1 ?_
  | ((with_reducible refine' rd_i ?rh ?_); (case rh => walk_at "ci"))
  | with_reducible refine rd_part ?_
  | with_reducible refine rd_nopart ?_
  | with_reducible refine rd_int ?_
  | with_reducible refine rd_sl ?_
  | with_reducible refine rd_bm ?_
  | with_reducible refine rd_bm0 ?_
  | with_reducible refine rd_dgetT ?_
  | with_reducible refine rd_din ?_
  | with_reducible refine rd_dnin ?_
  | with_reducible refine rd_un ?_
  | ((with_reducible refine' rd_ixL ?rh ?re ?_); (case rh => walk_at "hp"); (case re => walk_at "at"))
  | ((with_reducible refine' rd_ixT ?rh ?re ?_); (case rh => walk_at "sq"); (case re => walk_at "at"))
  | ((with_reducible refine' rd_lenT ?rh ?_); (case rh => walk_at "sq"))
  | ((with_reducible refine' rd_tyL ?rh ?_); (case rh => walk_at "hp"))
  | ((with_reducible refine' rd_len ?rh ?_); (case rh => walk_at "hp"))
  | with_reducible refine rd_u ?_
  | ((with_reducible refine' rd_slL ?rh ?_); (case rh => walk_at "hp"))
  | with_reducible refine rd_for ?_
  | with_reducible refine rd_rng1 ?_
  | with_reducible refine rd_rng2 ?_
  | with_reducible refine rd_ints1 ?_
  | with_reducible refine rd_ints2 ?_
  | with_reducible refine rd_retN ?_)
local macro_rules | `(tactic| walk_at "rd") => `(tactic| repeat walk_at "rd1")
section
variable [KW]
variable {P : Program} {w : World} {K : PySem.W.Frag} {mg : Str → Option Value} {base : Heap}
/-! ### _law_same of two tuples of rows -/
theorem nl_ty {M : List Addr} {H : Hp} {t : Addr} {l : List Nat} (h : Tp M H t (nVl l)) : Is M H (.tuple (nD l)) (.ref t) := Is.tp h (nD_is l)
/-- pairs of rows -/
def PrAt (M : List Addr) (H : Hp) (zs : List (Nat × Nat)) (vs : List V) : Prop := IsDs M H (zs.map fun z => PyData.tuple [.int (z.1 : Nat), .int (z.2 : Nat)]) vs
structure Sm2P (vs : List V) (H : Hp) (Q : VK) : Prop where
  ex : ∃ (t u : Addr) (xs ys : List Nat), vs = [.ref t, .ref u] ∧ Tp [] H t (nVl xs) ∧ Tp [] H u (nVl ys) ∧ ys.length ≤ 10000 ∧ ∀ H', Adv [] H H' → Q (.bl (decide (xs = ys))) H'
def spSame2 : Sp := fun vs H Q _ => Sm2P vs H Q
theorem ok_law_same2 (A : All K mg w) : FnOk P w K mg base CX0 1 A.law_same.f A.law_same.fd ["actual", "due"] spSame2 := by
  refine A.law_same.F.ok sc_law_same (fun vs H Q E h => ?_) (fun cdv Ar outer s H vs Q E hr h => ?_)
  · obtain ⟨t, u, xs, ys, rfl, _⟩ := h.ex
    rfl
  · obtain ⟨t1, t2, xs, ys, rfl, h1, h2, hz, q⟩ := h.ex
    refine ⟨_, (pss_cons (ps_set (i := 2) sc_law_same.nd rfl (Or.inl rfl) (pe_lst (pa_cons (pe_tup (pa_cons (pv 0) (pa_cons (pv 1) pa_nil))) pa_nil)))
  (pss_cons (ps_for PassesOwn.never rfl (pi_range1 rfl A.T.range (pa_cons pe_int pa_nil)) (pg_name (i := 3) sc_law_same.nd rfl (Or.inl rfl))
    (pss_cons (ps_if (pt_cmpR op_eq (pe_callB call_len_seq (by rfl) A.T.len PySem.boot_len (pa_cons (pv 2) pa_nil)) pe_int (nomark _))
    (pss_one (ps_ret pe_bl))
    pss_nil)
  (pss_cons (ps_asg (pe_bm0 PySem.F.plainAttrs_list PySem.F.slot_list_pop PySem.F.type_list_pop mt_pop (pv 2)) (pg_tup rfl (pgs_cons (pg_name (i := 4) sc_law_same.nd rfl (Or.inr rfl)) (pgs_cons (pg_name (i := 5) sc_law_same.nd rfl (Or.inr rfl)) pgs_nil))))
  (pss_one (ps_if (PW.pt (pw_or (pt_val (pe_callB call_isi (by rfl) A.T.isinstance (by decide +kernel) (pa_cons (pv 5) (pa_cons (pe_bltn (v := .ty "tuple") (by rfl) A.T.tuple (by decide +kernel) rfl) pa_nil)))) (pw_or1 (pt_val (pe_callB call_isi (by rfl) A.T.isinstance (by decide +kernel) (pa_cons (pv 5) (pa_cons (pe_bltn (v := .ty "list") (by rfl) A.T.list (by decide +kernel) rfl) pa_nil)))))))
    (pss_cons (ps_if (PW.pt (pw_or (pt_cmpR op_ne (pe_callB call_isi (by rfl) A.T.isinstance (by decide +kernel) (pa_cons (pv 5) (pa_cons (pe_bltn (v := .ty "tuple") (by rfl) A.T.tuple (by decide +kernel) rfl) pa_nil))) (pe_callB call_isi (by rfl) A.T.isinstance (by decide +kernel) (pa_cons (pv 4) (pa_cons (pe_bltn (v := .ty "tuple") (by rfl) A.T.tuple (by decide +kernel) rfl) pa_nil))) (nomark _)) (pw_or (pt_cmpR op_ne (pe_callB call_isi (by rfl) A.T.isinstance (by decide +kernel) (pa_cons (pv 5) (pa_cons (pe_bltn (v := .ty "list") (by rfl) A.T.list (by decide +kernel) rfl) pa_nil))) (pe_callB call_isi (by rfl) A.T.isinstance (by decide +kernel) (pa_cons (pv 4) (pa_cons (pe_bltn (v := .ty "list") (by rfl) A.T.list (by decide +kernel) rfl) pa_nil))) (nomark _)) (pw_or1 (pt_cmpR op_ne (pe_callB (call_or call_len_seq call_lenD) (by rfl) A.T.len PySem.boot_len (pa_cons (pv 4) pa_nil)) (pe_callB (call_or call_len_seq call_lenD) (by rfl) A.T.len PySem.boot_len (pa_cons (pv 5) pa_nil)) (nomark _))))))
    (pss_one (ps_ret pe_bl))
    pss_nil)
  (pss_one (ps_expr (pe_bm PySem.F.plainAttrs_list PySem.F.slot_list_extend PySem.F.type_list_extend mt_extend (pv 2) (pa_cons (pe_lc (own := [("at", 6)]) (g := (gName 6)) rfl sc_law_same.nd (pi_range1 rfl A.T.range (pa_cons (pe_callB (call_or call_len_seq call_lenD) (by rfl) A.T.len PySem.boot_len (pa_cons (pv 5) pa_nil)) pa_nil)) (blkOk_by (own := [("at", 6)]) (N := ["actual", "due", "left", "turn", "one", "other", "at", "key"]) (sc := defScope s_law_same) (by decide +kernel)) (fun _ _ _ _ _ => pg_name (i := 6) sc_law_same.nd rfl (Or.inl rfl)) (fun _ _ _ _ _ => pts_nil) (fun _ _ _ _ _ => (pe_tup (pa_cons (pe_ix (ix_any K rfl) (pv 4) (pv 6) (fun _ _ => rfl)) (pa_cons (pe_ix (ix_any K rfl) (pv 5) (pv 6) (fun _ _ => rfl)) pa_nil))))) pa_nil)))))
    (pss_one (ps_if (pt_val (pe_callB call_isi (by rfl) A.T.isinstance (by decide +kernel) (pa_cons (pv 5) (pa_cons (pe_bltn (v := .ty "dict") (by rfl) A.T.dict (by decide +kernel) rfl) pa_nil))))
    (pss_cons (ps_if (PW.pt (pw_or (pt_not (pt_val (pe_callB call_isi (by rfl) A.T.isinstance (by decide +kernel) (pa_cons (pv 4) (pa_cons (pe_bltn (v := .ty "dict") (by rfl) A.T.dict (by decide +kernel) rfl) pa_nil))))) (pw_or (pt_cmpR op_ne (pe_callB (call_or call_len_seq call_lenD) (by rfl) A.T.len PySem.boot_len (pa_cons (pv 4) pa_nil)) (pe_callB (call_or call_len_seq call_lenD) (by rfl) A.T.len PySem.boot_len (pa_cons (pv 5) pa_nil)) (nomark _)) (pw_or1 (pt_cmpR op_gt (pe_callB call_len_seq (by rfl) A.T.len PySem.boot_len (pa_cons (pe_lock (pe_lc (own := [("key", 7)]) (g := gName 7) rfl sc_law_same.nd (pi_keys (pv 5)) (blkOk_by (own := [("key", 7)]) (N := ["actual", "due", "left", "turn", "one", "other", "at", "key"]) (sc := defScope s_law_same) (by decide +kernel)) (fun _ _ _ _ _ => pg_name (i := 7) sc_law_same.nd rfl (Or.inl rfl)) (fun _ _ _ _ _ => pts_one pt_never) (fun _ _ _ _ _ => pe_never))) pa_nil)) pe_int (nomark _))))))
    (pss_one (ps_ret pe_bl))
    pss_nil)
  (pss_one (ps_expr (pe_bm PySem.F.plainAttrs_list PySem.F.slot_list_extend PySem.F.type_list_extend mt_extend (pv 2) (pa_cons (pe_lock (pe_lc (own := [("key", 7)]) (g := gName 7) rfl sc_law_same.nd (pi_keys (pv 5)) (blkOk_by (own := [("key", 7)]) (N := ["actual", "due", "left", "turn", "one", "other", "at", "key"]) (sc := defScope s_law_same) (by decide +kernel)) (fun _ _ _ _ _ => pg_name (i := 7) sc_law_same.nd rfl (Or.inl rfl)) (fun _ _ _ _ _ => pts_nil) (fun _ _ _ _ _ => pe_never))) pa_nil)))))
    (pss_one (ps_if (PW.pt (pw_or (pt_val (pe_callB call_isi (by rfl) A.T.isinstance (by decide +kernel) (pa_cons (pv 5) (pa_cons (pe_bltn (v := .ty "bool") (by rfl) A.T.bool (by decide +kernel) rfl) pa_nil)))) (pw_or1 (pt_val (pe_callB call_isi (by rfl) A.T.isinstance (by decide +kernel) (pa_cons (pv 5) (pa_cons (pe_bltn (v := .ty "str") (by rfl) A.T.str (by decide +kernel) rfl) pa_nil)))))))
    (pss_one (ps_if (PW.pt (pw_or (pt_cmpR op_ne (pe_callB call_isi (by rfl) A.T.isinstance (by decide +kernel) (pa_cons (pv 4) (pa_cons (pe_bltn (v := .ty "bool") (by rfl) A.T.bool (by decide +kernel) rfl) pa_nil))) (pe_callB call_isi (by rfl) A.T.isinstance (by decide +kernel) (pa_cons (pv 5) (pa_cons (pe_bltn (v := .ty "bool") (by rfl) A.T.bool (by decide +kernel) rfl) pa_nil))) (nomark _)) (pw_or (pt_cmpR op_ne (pe_callB call_isi (by rfl) A.T.isinstance (by decide +kernel) (pa_cons (pv 4) (pa_cons (pe_bltn (v := .ty "str") (by rfl) A.T.str (by decide +kernel) rfl) pa_nil))) (pe_callB call_isi (by rfl) A.T.isinstance (by decide +kernel) (pa_cons (pv 5) (pa_cons (pe_bltn (v := .ty "str") (by rfl) A.T.str (by decide +kernel) rfl) pa_nil))) (nomark _)) (pw_or1 (pt_cmpR op_ne (pv 4) (pv 5) (nomark _))))))
    (pss_one (ps_ret pe_bl))
    pss_nil))
    (pss_one (ps_if (pt_val (pe_callB call_isi (by rfl) A.T.isinstance (by decide +kernel) (pa_cons (pv 5) (pa_cons (pe_bltn (v := .ty "int") (by rfl) A.T.int (by decide +kernel) rfl) pa_nil))))
    (pss_one (ps_if (PW.pt (pw_or (pt_not (pt_val (pe_callB call_isi (by rfl) A.T.isinstance (by decide +kernel) (pa_cons (pv 4) (pa_cons (pe_bltn (v := .ty "int") (by rfl) A.T.int (by decide +kernel) rfl) pa_nil))))) (pw_or (pt_val (pe_callB call_isi (by rfl) A.T.isinstance (by decide +kernel) (pa_cons (pv 4) (pa_cons (pe_bltn (v := .ty "bool") (by rfl) A.T.bool (by decide +kernel) rfl) pa_nil)))) (pw_or1 (pt_cmpR op_ne (pv 4) (pv 5) (nomark _))))))
    (pss_one (ps_ret pe_bl))
    pss_nil))
    (pss_one (ps_if (pt_cmpR op_notN (pv 4) pe_non (nomark _))
    (pss_one (ps_ret pe_bl))
    pss_nil)))))))))))))
  (pss_one (ps_ret pe_bl)))), ?_⟩
    refine ⟨_, rfl, _, rfl, by show 2 ≤ sizeLine; decide, fun t nt => ⟨by show 1 ≤ sizeLine; decide, fun L nL => ?_⟩⟩
    have nL0 : H L = none := by
      by_cases e : L = t
      · rw [e]; exact nt
      · rw [upd_ne e] at nL; exact nL
    have ntL : t ≠ L := fun z => by rw [← z, upd_same] at nL; cases nL
    have aI : Adv [] H (upd (upd H t (.tup [.ref t1, .ref t2])) L (.lst [.ref t])) := (Adv.new nt).trans (Adv.new nL)
    refine ⟨2000000, rfl, by decide, by decide, for_range (lo := 0) (n := (2000000 : Int).toNat) (fun i σ' H' => ∃ (vs : List V) (x3 x4 x5 : Option V), σ' = [some (.ref t1), some (.ref t2), some (.ref L), x3, x4, x5, none, none] ∧ Adv [] H H' ∧ H' L = some (.lst vs) ∧
        ((i = 0 ∧ vs = [.ref t] ∧ H' t = some (.tup [.ref t1, .ref t2])) ∨ (1 ≤ i ∧ xs.length = ys.length ∧ ∃ k, k + i = ys.length + 1 ∧ xs.drop k = ys.drop k ∧ PrAt [L] H' ((xs.zip ys).take k) vs)))
      ⟨[.ref t], none, none, none, rfl, aI, upd_same, .inl ⟨rfl, rfl, by rw [upd_ne ntL, upd_same]⟩⟩ ?_ ?_⟩
    · rintro i σ' H' hi ⟨vs, x3, x4, x5, rfl, a', hL, hc⟩
      refine ⟨_, rfl, L, vs, rfl, .inl (SqL.of hL), rfl, _, rfl, ?_⟩
      rcases hc with ⟨rfl, rfl, ht⟩ | ⟨i1, el, k, ek, ed, hp⟩
      · -- the first pair
        refine iteN rfl ?_
        refine ⟨_, rfl, .inl ⟨rfl, _, SqL.of hL⟩, L, [.ref t], .ref t, rfl, rfl, hL, rfl, ?_⟩
        have aL : Adv [L] H' (upd H' L (.lst [])) := Adv.set (by simp)
        have a2 : Adv [] H (upd H' L (.lst [])) := a'.mut nL0
        have ht2 : (upd H' L (.lst [])) t = some (.tup [.ref t1, .ref t2]) := by rw [upd_ne ntL]; exact ht
        have g1 := h1.adv a2
        have g2 := h2.adv a2
        have hL2 : (upd H' L (.lst [])) L = some (.lst []) := upd_same
        show _
        have ed : ([V.ref t] : List V).dropLast = [] := rfl
        rw [ed]
        generalize upd H' L (.lst []) = H2 at *
        have hu1 := nl_ty g1
        have hu2 := nl_ty g2
        refine ⟨t, _, rfl, SqT.of ht2, rfl, _, _, rfl, _, _, rfl, rfl, ?_⟩
        refine ⟨_, rfl, _, _, _, _, _, rfl, .ty _, hu2.ty A.W, k_tuple _, _, rfl, ?_⟩
        refine iteY (by simp [kitD, tyN]) (iteY rfl ?_)
        refine ⟨_, rfl, _, _, _, _, _, rfl, .ty _, hu2.ty A.W, k_tuple _, _, rfl, _, _, _, _, _, rfl, .ty _, hu1.ty A.W, k_tuple _, rfl, _, rfl, iteN (by simp [kitD, tyN]) ?_⟩
        refine ⟨_, rfl, _, _, _, _, _, rfl, .ty _, hu2.ty A.W, k_list _, _, rfl, _, _, _, _, _, rfl, .ty _, hu1.ty A.W, k_list _, rfl, _, rfl, iteN (by simp [kitD, tyN]) ?_⟩
        refine ⟨_, rfl, .inl ⟨t1, _, rfl, .inr (g1.sq A.W), _, rfl, .inl ⟨t2, _, rfl, .inr (g2.sq A.W), rfl, _, rfl, ?_⟩⟩⟩
        rw [nVl_ln, nVl_ln]
        by_cases el : xs.length = ys.length
        case neg =>
          refine iteY (by simp; omega) ?_
          have q' := q H2 a2
          rw [decide_eq_false (fun z => el (by rw [z]))] at q'
          exact q'
        refine iteN (by simp [el]) ?_
        refine ⟨_, rfl, .inl ⟨rfl, _, SqL.of hL2⟩, _, rfl, .inl ⟨t2, _, rfl, .inr (g2.sq A.W), ((nVl ys).length : Int), rfl, by rw [nVl_ln]; omega, by rw [nVl_ln]; omega, fun D nD => ?_⟩⟩
        refine lc_dataR (M := [L]) (n := ((nVl ys).length : Int).toNat) ((xs.zip ys).map fun z => PyData.tuple [.int (z.1 : Nat), .int (z.2 : Nat)]) (by simp [nVl_ln, el]) nD (by simp [nVl_ln]; omega) ?_ ?_
        · intro j dj H3 acc R hj a3 hD k
          have hj2 : j < ys.length := by
            have := (List.getElem?_eq_some_iff.mp hj).1
            rw [List.length_map, List.length_zip] at this
            omega
          have e0 : (0 : Int) + (j : Nat) = (j : Int) := by omega
          rw [e0]
          have hw1 : (nVl xs)[j]? = some (.int ((xs[j]'(by omega) : Nat) : Int)) := by unfold nVl; rw [List.getElem?_map, List.getElem?_eq_getElem (by omega)]; rfl
          have hw2 : (nVl ys)[j]? = some (.int ((ys[j] : Nat) : Int)) := by unfold nVl; rw [List.getElem?_map, List.getElem?_eq_getElem hj2]; rfl
          have ed : PyData.tuple [.int ((xs[j]'(by omega) : Nat) : Int), .int ((ys[j] : Nat) : Int)] = dj := by
            rw [List.getElem?_map, List.getElem?_eq_getElem (by rw [List.length_zip]; omega), List.getElem_zip] at hj
            simpa using hj
          refine ⟨rfl, _, rfl, _, rfl, .inr ⟨t1, _, (j : Int), _, rfl, rfl, (g1.adv a3).sq A.W, atI_nat hw1, _, rfl, _, rfl, .inr ⟨t2, _, (j : Int), _, rfl, rfl, (g2.adv a3).sq A.W, atI_nat hw2, by show 2 ≤ sizeLine; decide, fun T nT => ?_⟩⟩⟩
          have nDT : T ≠ D := (ne_of_none hD nT).symm
          have nLT : T ≠ L := (ne_of_none (a3.same _ _ hL2) nT).symm
          refine k _ _ (by rw [upd_ne nDT.symm]; exact hD) (Adv.new nT) ?_
          rw [← ed]
          exact Is.tup upd_same (by simp [nDT, nLT]) (.cons Is.int (IsDs.one Is.int))
        · intro H3 acc a3 hD hacc
          have hal := hacc.len
          rw [List.length_map, List.length_zip] at hal
          have hL3 := a3.same _ _ hL2
          refine ⟨L, D, [], acc, rfl, rfl, hL3, hD, by rw [sizeLine_eq]; simp; omega, ?_⟩
          refine ⟨acc, _, _, _, rfl, (a2.trans a3).mut nL0, upd_same, .inr ⟨by omega, el, ys.length, by omega, by rw [List.drop_length, ← el, List.drop_length], ?_⟩⟩
          unfold PrAt
          rw [List.take_of_length_le (by rw [List.length_zip]; omega)]
          exact (hacc.less (by simp)).adv (Adv.set (by simp))
      · -- a pair of rows
        cases k with
        | zero =>
          rw [List.take_zero] at hp
          have e0 : vs = [] := by unfold PrAt at hp; rw [List.map_nil] at hp; unfold IsDs at hp; exact hp
          subst e0
          rw [List.drop_zero, List.drop_zero] at ed
          have q' := q _ a'
          rw [decide_eq_true ed] at q'
          exact iteY rfl q'
        | succ k =>
          have hk1 : k < xs.length := by omega
          have hk2 : k < ys.length := by omega
          have ez : (xs.zip ys)[k]? = some (xs[k], ys[k]) := by rw [List.getElem?_eq_getElem (by rw [List.length_zip]; omega), List.getElem_zip]
          unfold PrAt at hp
          rw [take_snc ez, List.map_append] at hp
          obtain ⟨ws, v, rfl, hws, hv⟩ := IsDs.last (d := PyData.tuple [.int ((xs[k] : Nat) : Int), .int ((ys[k] : Nat) : Int)]) hp
          refine iteN (by simp; omega) ?_
          refine ⟨_, rfl, .inl ⟨rfl, _, SqL.of hL⟩, L, ws ++ [v], v, rfl, rfl, hL, by simp, ?_⟩
          rw [List.dropLast_concat]
          obtain ⟨tp, u1, u2, rfl, htp, hu1, hu2⟩ := hv.pair
          have aL : Adv [L] H' (upd H' L (.lst ws)) := Adv.set (by simp)
          have a2 : Adv [] H (upd H' L (.lst ws)) := a'.mut nL0
          have htp2 := htp.adv aL
          replace hu1 := hu1.adv aL
          replace hu2 := hu2.adv aL
          replace hws := hws.adv aL
          have hL2 : (upd H' L (.lst ws)) L = some (.lst ws) := upd_same
          generalize upd H' L (.lst ws) = H2 at *
          refine ⟨tp, [u1, u2], rfl, htp2.sq A.W, rfl, _, _, rfl, _, _, rfl, rfl, ?_⟩
          refine ⟨_, rfl, _, _, _, _, _, rfl, .ty _, hu2.ty A.W, k_tuple _, _, rfl, iteN (by simp [kitD, tyN]) ?_⟩
          refine ⟨_, rfl, _, _, _, _, _, rfl, .ty _, hu2.ty A.W, k_list _, _, rfl, iteN (by simp [kitD, tyN]) ?_⟩
          refine ⟨_, rfl, _, _, _, _, _, rfl, .ty _, hu2.ty A.W, k_dict _, _, rfl, iteN (by simp [kitD, tyN]) ?_⟩
          refine ⟨_, rfl, _, _, _, _, _, rfl, .ty _, hu2.ty A.W, k_bool _, _, rfl, iteN (by simp [kitD, tyN]) ?_⟩
          refine ⟨_, rfl, _, _, _, _, _, rfl, .ty _, hu2.ty A.W, k_str _, _, rfl, iteN (by simp [kitD, tyN]) ?_⟩
          refine ⟨_, rfl, _, _, _, _, _, rfl, .ty _, hu2.ty A.W, k_int _, _, rfl, iteY (by simp [kitD, tyN]) ?_⟩
          refine ⟨_, rfl, _, _, _, _, _, rfl, .ty _, hu1.ty A.W, k_int _, _, rfl, iteN (by simp [kitD, tyN]) ?_⟩
          refine ⟨_, rfl, _, _, _, _, _, rfl, .ty _, hu1.ty A.W, k_bool _, _, rfl, iteN (by simp [kitD, tyN]) ?_⟩
          cases hu1.intE
          cases hu2.intE
          refine ⟨_, rfl, _, rfl, rfl, _, rfl, ?_⟩
          by_cases e : xs[k] = ys[k]
          · refine iteN (by simp [e]) ?_
            refine ⟨ws, _, _, _, rfl, a2, hL2, .inr ⟨by omega, el, k, by omega, ?_, hws⟩⟩
            rw [List.drop_eq_getElem_cons hk1, List.drop_eq_getElem_cons hk2, e, ed]
          · have ne : ¬ ((xs[k] : Nat) : Int) = ((ys[k] : Nat) : Int) := by omega
            refine iteY (by simp [ne]) ?_
            have q' := q H2 a2
            rw [decide_eq_false (fun z => e (by subst z; rfl))] at q'
            exact q'
    · rintro σ' H' ⟨vs, x3, x4, x5, rfl, a', hL, hc⟩
      rcases hc with ⟨e, _⟩ | ⟨_, _, k, ek, _⟩
      · have : (2000000 : Int).toNat = 2000000 := rfl
        omega
      · have : (2000000 : Int).toNat = 2000000 := rfl
        omega
end
end K10

set_option Elab.async false
set_option linter.all false
set_option maxRecDepth 100000
set_option maxHeartbeats 400000
namespace K10
open PySem PySem.Spec PyProof.Rows L2 LL
open C8 (pss_cut)
local macro_rules | `(tactic| walk_at "ne") => `(tactic| first | assumption | (apply Ne.symm; assumption) | exact ne_of_none (by walk_at "hp") (by assumption) | exact (ne_of_none (by walk_at "hp") (by assumption)).symm)
local macro_rules | `(tactic| walk_at "nm") => `(tactic| first | assumption | exact notin0 | exact notin1 (by walk_at "ne") | exact notin2 (by walk_at "ne") (by walk_at "ne"))
local macro_rules | `(tactic| walk_at "hp") => `(tactic| first | assumption | exact upd_same | (refine Eq.trans (upd_ne ?ne) ?hh; (case hh => walk_at "hp"); (case ne => walk_at "ne")) | (refine Adv.get' (by assumption) ?hh ?nn; (case hh => walk_at "hp"); (case nn => walk_at "nm")))
local macro_rules | `(tactic| walk_at "tp") => `(tactic| first | assumption | exact Tp.adv (by walk_at "tp") (by assumption) | exact Tp.adv (by walk_at "tp") (Adv.nil (by assumption)))
local macro_rules | `(tactic| walk_at "sq") => `(tactic| first | assumption | exact Tp.sq (by assumption) (by walk_at "tp") | exact SqT.of (by walk_at "hp"))
local macro_rules | `(tactic| walk_at "at") => `(tactic| first | exact atI_nat (j := 0) rfl | exact atI_nat (j := 1) rfl | exact atI_nat (j := 2) rfl | exact atI_nat (j := 3) rfl | exact atI_nat (by assumption) | (rw [Int.zero_add]; exact atI_nat (by assumption)))
local macro_rules | `(tactic| walk_at "bb") => `(tactic| first | assumption | decide | exact rfl)
local macro_rules | `(tactic| walk_at "ci") => `(tactic| first | omega | (dsimp only; omega) | (unfold CDiv; omega) | (unfold CMul; omega))
local macro_rules | `(tactic| walk_at "rd1") => `(tactic| first
  | with_reducible refine rd_c ?_
  | ((with_reducible refine' rd_var ?rh ?_); (case rh => exact rfl))
  | with_reducible refine rd_op ?_
  | with_reducible refine rd_seq ?_
  | with_reducible refine rd_asg ?_
  | with_reducible refine rd_gname ?_
  | with_reducible refine rd_ifS ?_
  | with_reducible refine rd_test ?_
  | with_reducible refine rd_tB ?_
  | with_reducible refine rd_blP ?_
  | ((with_reducible refine' iteY ?rh ?_); (case rh => walk_at "bb"))
  | ((with_reducible refine' iteN ?rh ?_); (case rh => walk_at "bb"))
  | with_reducible refine rd_ret ?_
  | with_reducible refine rd_nx ?_
  | ((with_reducible refine' rd_eq ?rh ?_); (case rh => exact rfl))
  | ((with_reducible refine' rd_ne ?rh ?_); (case rh => exact rfl))
  | with_reducible refine rd_add ?_
  | with_reducible refine rd_sub ?_
  | with_reducible refine rd_i0 ?_
  | with_reducible refine rd_and ?_
  | with_reducible refine rd_or ?_
  | with_reducible refine rd_not ?_
  | with_reducible refine rd_andV ?_
  | with_reducible refine rd_orV ?_
  | with_reducible refine rd_notV ?_
  | with_reducible refine rd_ifE ?_
  | with_reducible refine rd_isN ?_
  | with_reducible refine rd_notN ?_
  | with_reducible refine rd_cons ?_
  | with_reducible refine rd_nil ?_
  | with_reducible refine rd_tup ?_
  | with_reducible refine rd_lst ?_
  | with_reducible refine rd_call ?_
  | with_reducible refine rd_cb ?_
  | with_reducible refine rd_meth ?_
  | with_reducible refine rd_callS ?_
  | with_reducible refine rd_make ?_
  | with_reducible refine rd_rfl ?_
  | with_reducible refine rd_fld ?_
  | with_reducible refine rd_drop ?_
  | with_reducible refine rd_gsub ?_
  | with_reducible refine rd_gcons ?_
  | with_reducible refine rd_gnil ?_
  | with_reducible refine rd_par ?_
  | with_reducible refine rd_two ?_
  | with_reducible refine rd_par3 ?_
  | with_reducible refine rd_three ?_
  | with_reducible refine rd_int1 ?_
  | ((with_reducible refine' rd_i ?rh ?_); (case rh => walk_at "ci"))
  | with_reducible refine rd_part ?_
  | with_reducible refine rd_nopart ?_
  | with_reducible refine rd_int ?_
  | with_reducible refine rd_sl ?_
  | with_reducible refine rd_bm ?_
  | with_reducible refine rd_bm0 ?_
  | with_reducible refine rd_dgetT ?_
  | with_reducible refine rd_din ?_
  | with_reducible refine rd_dnin ?_
  | with_reducible refine rd_un ?_
  | ((with_reducible refine' rd_ixL ?rh ?re ?_); (case rh => walk_at "hp"); (case re => walk_at "at"))
  | ((with_reducible refine' rd_ixT ?rh ?re ?_); (case rh => walk_at "sq"); (case re => walk_at "at"))
  | ((with_reducible refine' rd_lenT ?rh ?_); (case rh => walk_at "sq"))
  | ((with_reducible refine' rd_tyL ?rh ?_); (case rh => walk_at "hp"))
  | ((with_reducible refine' rd_len ?rh ?_); (case rh => walk_at "hp"))
  | with_reducible refine rd_u ?_
  | ((with_reducible refine' rd_slL ?rh ?_); (case rh => walk_at "hp"))
  | with_reducible refine rd_for ?_
  | with_reducible refine rd_rng1 ?_
  | with_reducible refine rd_rng2 ?_
  | with_reducible refine rd_ints1 ?_
  | with_reducible refine rd_ints2 ?_
  | with_reducible refine rd_retN ?_)
local macro_rules | `(tactic| walk_at "rd") => `(tactic| repeat walk_at "rd1")
section
variable [KW]
variable {P : Program} {w : World} {K : PySem.W.Frag} {mg : Str → Option Value} {base : Heap}
theorem isds_of {M : List Addr} {H : Hp} : ∀ {ds : List PyData} {vs : List V}, vs.length = ds.length → (∀ (i : Nat) (d : PyData), ds[i]? = some d → ∃ v, vs[i]? = some v ∧ Is M H d v) → IsDs M H ds vs
  | [], [], _, _ => IsDs.nil
  | d :: ds, v :: vs, hl, h => by
    obtain ⟨v', e, hi⟩ := h 0 d rfl
    have ev : v = v' := by simpa using e
    subst ev
    exact IsDs.cons hi (isds_of (by simpa using hl) fun i d hd => by
      obtain ⟨v', e, hi⟩ := h (i + 1) d (by simpa using hd)
      exact ⟨v', by simpa using e, hi⟩)
/-! ### truths -/
def trsD (ss : List Nat) (ms : List Nat) : List PyData := ms.map fun m => .tuple (nD (bitsL ss.length m))
structure TruP (vs : List V) (H : Hp) (Q : VK) : Prop where
  ex : ∃ (x : Str) (v : V) (sh : Addr) (rs : List V) (ss : List Nat) (L : Nat → Nat) (ns : List Nd), vs = [.str x, v, .ref sh] ∧ logicOk x = true ∧ x ≠ "classical" ∧ wordF x ss L = none ∧ RtM ss L ∧ Is [] H (modD ss L) v ∧ H sh = some (.lst rs) ∧ IsDs [] H (ns.map Nd.data) rs ∧ okSheet (logicB x) ns ∧ ns.length ≤ 5000 ∧
    ∀ D us H', H D = none → H' D = some (.lst us) → IsDs [] H' (trsD ss (tmF (decide (x = "intuit")) ss L ns)) us → Adv [] H H' → Q (.ref D) H'
def spTru : Sp := fun vs H Q _ => TruP vs H Q
theorem ok_truths (A : All K mg w) (Z : Exs K mg) (Z1 : Er_BadModel Z) : FnOk P w K mg base CX0 10 A.truths.f A.truths.fd ["logic", "model", "sheet"] spTru := by
  refine A.truths.F.ok sc_truths (fun vs H Q E h => ?_) (fun cdv Ar outer s H vs Q E hr h => ?_)
  · obtain ⟨x, v, sh, rs, ss, L, ns, rfl, _⟩ := h.ex
    rfl
  · obtain ⟨x, v, sh, rs, ss, L, ns, rfl, lo, nc, wd, R, hv, hsh, hds, ok, hnl, q⟩ := h.ex
    obtain ⟨tM, mM⟩ := A.C.most
    refine ⟨_, (pss_cons (ps_expr (pe_call (ok_check_model A Z Z1) (hr.mono (by omega)) rfl A.check_model.m A.check_model.F.kp A.check_model.b .nil passN0 (pa_cons (pv 0) (pa_cons (pv 1) pa_nil))))
  (pss_cons (ps_expr (pe_call (ok_check_rows_of A) (hr.mono (by omega)) rfl A.check_rows_of.m A.check_rows_of.F.kp A.check_rows_of.b .nil pass0 (pa_cons (pv 2) (pa_cons (pe_glob (v := .int 5000) rfl mM ⟨_, rfl⟩) (pa_cons (pe_call (ok_is_boxed A) (hr.mono (by omega)) rfl A.is_boxed.m A.is_boxed.F.kp A.is_boxed.b .nil pass0 (pa_cons (pv 0) pa_nil)) pa_nil)))))
  (pss_one (ps_ret (pe_lc (own := [("mask", 3)]) (g := (gName 3)) rfl sc_truths.nd (pi_list (pe_call (ok_truth_masks A) (hr.mono (by omega)) rfl A.truth_masks.m A.truth_masks.F.kp A.truth_masks.b .nil pass0 (pa_cons (pv 0) (pa_cons (pv 1) (pa_cons (pv 2) pa_nil))))) (blkOk_by (own := [("mask", 3)]) (N := ["logic", "model", "sheet", "mask"]) (sc := defScope s_truths) (by decide +kernel)) (fun _ _ _ _ _ => pg_name (i := 3) sc_truths.nd rfl (Or.inl rfl)) (fun _ _ _ _ _ => pts_nil) (fun _ _ _ _ _ => (pe_callTy (call_tupleK K rfl) (by rfl) A.T.tuple (by decide +kernel) (pa_cons (pe_call (ok_members A) (hr.mono (by omega)) rfl A.members.m A.members.F.kp A.members.b .nil pass0 (pa_cons (pv 3) (pa_cons (pe_ix (ix_tupK K rfl) (pv 1) pe_int (fun _ _ => rfl)) pa_nil))) pa_nil)))))))), ?_⟩
    walk_at "rd"
    refine ⟨⟨x, v, ss, L, rfl, lo, nc, R, hv, fun _ H1 a1 => ?_, fun z hz => by rw [wd] at hz; cases hz⟩⟩
    walk_at "rd"
    refine ⟨x, rfl, fun H2 a2 => ?_⟩
    have a12 := a1.trans a2
    walk_at "rd"
    refine ⟨⟨.ref sh, ns, 5000, logicB x, rfl, Is.lst (a12.same _ _ hsh) (by simp) (hds.adv a12), ok, hnl, by omega, fun H3 a3 => ?_⟩⟩
    have a13 := a12.trans a3
    walk_at "rd"
    refine ⟨_, rfl, ?_⟩
    walk_at "rd"
    refine ⟨⟨x, v, sh, rs, ss, L, ns, logicB x, rfl, R, hv.adv a13, a13.same _ _ hsh, hds.adv a13, ok, by omega, fun F H4 nF hF a4 => ?_⟩⟩
    have a14 := a13.trans a4
    have hz := R.le
    have fl := tmF_len (decide (x = "intuit")) ss L ns
    refine ⟨F, rfl, ⟨_, SqL.of hF⟩, fun D nDD => ?_⟩
    refine lc_relL (xs := nVl (tmF (decide (x = "intuit")) ss L ns)) (fun i y H => ∃ m, (tmF (decide (x = "intuit")) ss L ns)[i]? = some m ∧ Is [D] H (.tuple (nD (bitsL ss.length m))) y) nDD hF (by rw [nVl_ln]; omega) ?_ ?_ ?_
    · rintro i y H5 H6 ⟨m, h1, h2⟩ a
      exact ⟨m, h1, h2.adv a⟩
    · intro i y H' acc R' hy aH hD k
      obtain ⟨m, hm, rfl⟩ := nVl_gt hy
      obtain ⟨t, us, rfl, ht, hs⟩ := (hv.adv (a14.trans aH)).tupE
      obtain ⟨u1, u2, u3, rfl, h1, h2, h3⟩ := three_at hs
      cases h1.intE
      have sq := ht.sq A.W
      refine ⟨rfl, ?_⟩
      walk_at "rd"
      refine ⟨m, ss.length, rfl, by omega, fun D1 H5 nD1 hD1 a5 => ?_⟩
      refine ⟨D1, _, rfl, .inl ⟨SqL.of hD1, fun t nt => ?_⟩⟩
      have nDt : t ≠ D := fun z => by rw [z, a5.same _ _ hD] at nt; cases nt
      refine k _ _ ((a5.newT nt).same _ _ hD) (a5.newT nt) ⟨m, hm, Is.tup upd_same (by simpa using nDt) (nD_is _)⟩
    · intro H5 ys a5 hD hys hrel
      refine q D ys H5 (a14.free (by simp) nDD) hD (isds_of ?_ fun i d hi => ?_) (a14.trans a5)
      · unfold trsD
        rw [hys, nVl_ln, List.length_map]
      · unfold trsD at hi
        rw [List.getElem?_map, Option.map_eq_some_iff] at hi
        obtain ⟨m, hm, rfl⟩ := hi
        have hi2 : i < ys.length := by rw [hys, nVl_ln]; exact (List.getElem?_eq_some_iff.mp hm).1
        obtain ⟨m', hm', h⟩ := hrel i _ (List.getElem?_eq_getElem hi2)
        rw [hm] at hm'
        cases hm'
        exact ⟨_, List.getElem?_eq_getElem hi2, h.less (by simp)⟩
end
end K10

set_option Elab.async false
set_option linter.all false
set_option maxRecDepth 100000
set_option maxHeartbeats 400000
namespace K10
open PySem PySem.Spec PyProof.Rows L2 LL
open C8 (pss_cut)
local macro_rules | `(tactic| walk_at "ne") => `(tactic| first | assumption | (apply Ne.symm; assumption) | exact ne_of_none (by walk_at "hp") (by assumption) | exact (ne_of_none (by walk_at "hp") (by assumption)).symm)
local macro_rules | `(tactic| walk_at "nm") => `(tactic| first | assumption | exact notin0 | exact notin1 (by walk_at "ne") | exact notin2 (by walk_at "ne") (by walk_at "ne"))
local macro_rules | `(tactic| walk_at "hp") => `(tactic| first | assumption | exact upd_same | (refine Eq.trans (upd_ne ?ne) ?hh; (case hh => walk_at "hp"); (case ne => walk_at "ne")) | (refine Adv.get' (by assumption) ?hh ?nn; (case hh => walk_at "hp"); (case nn => walk_at "nm")))
local macro_rules | `(tactic| walk_at "tp") => `(tactic| first | assumption | exact Tp.adv (by walk_at "tp") (by assumption) | exact Tp.adv (by walk_at "tp") (Adv.nil (by assumption)))
local macro_rules | `(tactic| walk_at "sq") => `(tactic| first | assumption | exact Tp.sq (by assumption) (by walk_at "tp") | exact SqT.of (by walk_at "hp"))
local macro_rules | `(tactic| walk_at "at") => `(tactic| first | exact atI_nat (j := 0) rfl | exact atI_nat (j := 1) rfl | exact atI_nat (j := 2) rfl | exact atI_nat (j := 3) rfl | exact atI_nat (by assumption) | (rw [Int.zero_add]; exact atI_nat (by assumption)))
local macro_rules | `(tactic| walk_at "bb") => `(tactic| first | assumption | decide | exact rfl)
local macro_rules | `(tactic| walk_at "ci") => `(tactic| first | omega | (dsimp only; omega) | (unfold CDiv; omega) | (unfold CMul; omega))
local macro_rules | `(tactic| walk_at "rd1") => `(tactic| first
  | with_reducible refine rd_c ?_
  | ((with_reducible refine' rd_var ?rh ?_); (case rh => exact rfl))
  | with_reducible refine rd_op ?_
  | with_reducible refine rd_seq ?_
  | with_reducible refine rd_asg ?_
  | with_reducible refine rd_gname ?_
  | with_reducible refine rd_ifS ?_
  | with_reducible refine rd_test ?_
  | with_reducible refine rd_tB ?_
  | with_reducible refine rd_blP ?_
  | ((with_reducible refine' iteY ?rh ?_); (case rh => walk_at "bb"))
  | ((with_reducible refine' iteN ?rh ?_); (case rh => walk_at "bb"))
  | with_reducible refine rd_ret ?_
  | with_reducible refine rd_nx ?_
  | ((with_reducible refine' rd_eq ?rh ?_); (case rh => exact rfl))
  | ((with_reducible refine' rd_ne ?rh ?_); (case rh => exact rfl))
  | with_reducible refine rd_add ?_
  | with_reducible refine rd_sub ?_
  | with_reducible refine rd_i0 ?_
  | with_reducible refine rd_and ?_
  | with_reducible refine rd_or ?_
  | with_reducible refine rd_not ?_
  | with_reducible refine rd_andV ?_
  | with_reducible refine rd_orV ?_
  | with_reducible refine rd_notV ?_
  | with_reducible refine rd_ifE ?_
  | with_reducible refine rd_isN ?_
  | with_reducible refine rd_notN ?_
  | with_reducible refine rd_cons ?_
  | with_reducible refine rd_nil ?_
  | with_reducible refine rd_tup ?_
  | with_reducible refine rd_lst ?_
  | with_reducible refine rd_call ?_
  | with_reducible refine rd_cb ?_
  | with_reducible refine rd_meth ?_
  | with_reducible refine rd_callS ?_
  | with_reducible refine rd_make ?_
  | with_reducible refine rd_rfl ?_
  | with_reducible refine rd_fld ?_
  | with_reducible refine rd_drop ?_
  | with_reducible refine rd_gsub ?_
  | with_reducible refine rd_gcons ?_
  | with_reducible refine rd_gnil ?_
  | with_reducible refine rd_par ?_
  | with_reducible refine rd_two ?_
  | with_reducible refine rd_par3 ?_
  | with_reducible refine rd_three ?_
  | with_reducible refine rd_int1 ?_
  | ((with_reducible refine' rd_i ?rh ?_); (case rh => walk_at "ci"))
  | with_reducible refine rd_part ?_
  | with_reducible refine rd_nopart ?_
  | with_reducible refine rd_int ?_
  | with_reducible refine rd_sl ?_
  | with_reducible refine rd_bm ?_
  | with_reducible refine rd_bm0 ?_
  | with_reducible refine rd_dgetT ?_
  | with_reducible refine rd_din ?_
  | with_reducible refine rd_dnin ?_
  | with_reducible refine rd_un ?_
  | ((with_reducible refine' rd_ixL ?rh ?re ?_); (case rh => walk_at "hp"); (case re => walk_at "at"))
  | ((with_reducible refine' rd_ixT ?rh ?re ?_); (case rh => walk_at "sq"); (case re => walk_at "at"))
  | ((with_reducible refine' rd_lenT ?rh ?_); (case rh => walk_at "sq"))
  | ((with_reducible refine' rd_tyL ?rh ?_); (case rh => walk_at "hp"))
  | ((with_reducible refine' rd_len ?rh ?_); (case rh => walk_at "hp"))
  | with_reducible refine rd_u ?_
  | ((with_reducible refine' rd_slL ?rh ?_); (case rh => walk_at "hp"))
  | with_reducible refine rd_for ?_
  | with_reducible refine rd_rng1 ?_
  | with_reducible refine rd_rng2 ?_
  | with_reducible refine rd_ints1 ?_
  | with_reducible refine rd_ints2 ?_
  | with_reducible refine rd_retN ?_)
local macro_rules | `(tactic| walk_at "rd") => `(tactic| repeat walk_at "rd1")
section
variable [KW]
variable {P : Program} {w : World} {K : PySem.W.Frag} {mg : Str → Option Value} {base : Heap}
/-! ### _law_some -/
structure SomeP (vs : List V) (H : Hp) (Q : VK) : Prop where
  ex : ∃ (M : List Addr) (s l : Addr) (rows : List Nat) (n : Int), vs = [.ref s, .ref l, .int n] ∧ StrAt M H s ∧ H l = some (.lst (nVl rows)) ∧ rows.length ≤ 1000000 ∧
    ∀ D rows' H', H D = none → H' D = some (.lst (nVl rows')) → (rows').Sublist rows → StrAt M H' s → Adv [s] H H' → Q (.ref D) H'
def spSome : Sp := fun vs H Q _ => SomeP vs H Q
theorem str_nl {M : List Addr} {H : Hp} {s l : Addr} {rows : List Nat} (hst : StrAt M H s) (hl : H l = some (.lst (nVl rows))) : l ≠ s := fun z => by
  obtain ⟨li, ns, c, k, h1, _⟩ := hst
  rw [z, h1] at hl
  injection hl with hl
  injection hl with hl
  unfold nVl at hl
  cases rows with
  | nil => cases hl
  | cons r rows => rw [List.map_cons] at hl; injection hl with hl; cases hl
theorem ok_law_some (A : All K mg w) : FnOk P w K mg base CX0 2 A.law_some.f A.law_some.fd ["stream", "rows", "share"] spSome := by
  refine A.law_some.F.ok sc_law_some (fun vs H Q E h => ?_) (fun cdv Ar outer s H vs Q E hr h => ?_)
  · obtain ⟨M, st, l, rows, n, rfl, _⟩ := h.ex
    rfl
  · obtain ⟨M, st, l, rows, n, rfl, hst, hl, hz, q⟩ := h.ex
    refine ⟨_, (pss_one (ps_ret (pe_lc (own := [("row", 3)]) (g := (gName 3)) rfl sc_law_some.nd (pi_list (pv 1)) (blkOk_by (own := [("row", 3)]) (N := ["stream", "rows", "share", "row"]) (sc := defScope s_law_some) (by decide +kernel)) (fun _ _ _ _ _ => pg_name (i := 3) sc_law_some.nd rfl (Or.inl rfl)) (fun _ _ _ _ _ => pts_one (pt_cmpR op_lt (pe_call (ok_law_next A) (hr.mono (by omega)) rfl A.law_next.m A.law_next.F.kp A.law_next.b .nil pass0 (pa_cons (pv 0) (pa_cons pe_int pa_nil))) (pv 2) (nomark _))) (fun _ _ _ _ _ => (pv 3))))), ?_⟩
    have sl : l ≠ st := str_nl hst hl
    walk_at "rd"
    refine ⟨_, rfl, l, rfl, ⟨_, SqL.of hl⟩, fun D nD => ?_⟩
    have Ds : st ≠ D := fun z => hst.here (by rw [z]; exact nD)
    refine lc_list (K := K) (a := l) (xs := nVl rows) (fun i H' => ∃ rows', H' D = some (.lst (nVl rows')) ∧ (rows').Sublist (rows.take i) ∧ StrAt (D :: M) H' st ∧ Adv [st] H H' ∧ H' l = some (.lst (nVl rows)))
      ⟨[], upd_same, by simp, (hst.fresh nD).same (Adv.new nD), Adv.nil (Adv.new nD), (Adv.new (M := []) nD).same _ _ hl⟩ (fun i H' _ p => ?_) (fun i x H' hx p => ?_) (fun H' p => ?_)
    · obtain ⟨r', _, _, _, _, h⟩ := p
      exact SqL.of h
    · obtain ⟨r', hD, hs, hst', a', hl'⟩ := p
      obtain ⟨k, hk, rfl⟩ := nVl_gt hx
      have et : rows.take (i + 1) = rows.take i ++ [k] := by rw [List.take_succ, hk]; rfl
      have lD : l ≠ D := ne_of_none hl nD
      refine ⟨rfl, _, rfl, st, 8, D :: M, rfl, hst', by decide, by decide, fun t H2 t0 t1 hs2 a2 => ?_⟩
      refine ⟨_, rfl, t, n, rfl, rfl, _, rfl, ?_⟩
      have hD2 := a2 _ _ (notin1 Ds.symm) hD
      have hl2 := a2 _ _ (notin1 sl) hl'
      have len1 := hs.length_le
      rw [List.length_take] at len1
      refine iteB (fun e => ?_) (fun e => ?_)
      · refine ⟨_, rfl, _, hD2, by rw [nVl_ln, sizeLine_eq]; omega, r' ++ [k], ?_, ?_, hs2.adv (N := [D]) (Adv.set (by simp)) (notin1 Ds) (by simp), (a'.trans a2).mut nD, by rw [upd_ne lD]; exact hl2⟩
        · rw [upd_same]
          unfold nVl
          rw [List.map_append]
          rfl
        · rw [et]
          exact hs.append (List.Sublist.refl _)
      · exact ⟨r', hD2, by rw [et]; exact hs.trans (List.sublist_append_left _ _), hs2, a'.trans a2, hl2⟩
    · obtain ⟨r', hD, hs, hst', a', hl'⟩ := p
      have e : rows.take (nVl rows).length = rows := by rw [nVl_ln, List.take_length]
      rw [e] at hs
      exact q D r' H' nD hD hs (hst'.less (by simp +contextual)) a'
theorem map_erase {α β : Type} (f : α → β) : ∀ (l : List α) (j : Nat), (l.map f).eraseIdx j = (l.eraseIdx j).map f
  | [], _ => rfl
  | a :: l, 0 => rfl
  | a :: l, j + 1 => by rw [List.map_cons, List.eraseIdx_cons_succ, List.eraseIdx_cons_succ, List.map_cons, map_erase f l j]
theorem seq_at {j n : Nat} (h : j < n) : seqIndex? ((j : Nat) : Int) n = some j := (ixN_seq (ixN_of h)).1
/-! ### _law_shuffled -/
structure ShfP (vs : List V) (H : Hp) (Q : VK) : Prop where
  ex : ∃ (M : List Addr) (s l : Addr) (rows : List Nat), vs = [.ref s, .ref l] ∧ StrAt M H s ∧ H l = some (.lst (nVl rows)) ∧ rows.length ≤ 100000 ∧
    ∀ D rows' H', H D = none → H' D = some (.lst (nVl rows')) → rows'.length = rows.length → (∀ r ∈ rows', r ∈ rows) → StrAt M H' s → Adv [s] H H' → Q (.ref D) H'
def spShf : Sp := fun vs H Q _ => ShfP vs H Q
theorem ok_law_shuffled (A : All K mg w) : FnOk P w K mg base CX0 2 A.law_shuffled.f A.law_shuffled.fd ["stream", "rows"] spShf := by
  refine A.law_shuffled.F.ok sc_law_shuffled (fun vs H Q E h => ?_) (fun cdv Ar outer s H vs Q E hr h => ?_)
  · obtain ⟨M, st, l, rows, rfl, _⟩ := h.ex
    rfl
  · obtain ⟨M, st, l, rows, rfl, hst, hl, hz, q⟩ := h.ex
    refine ⟨_, (pss_cons (ps_set (i := 2) sc_law_shuffled.nd rfl (Or.inl rfl) (pe_callTy call_list_of (by rfl) A.T.list (by decide +kernel) (pa_cons (pv 1) pa_nil)))
  (pss_cons (ps_set (i := 3) sc_law_shuffled.nd rfl (Or.inl rfl) (pe_lst pa_nil))
  (pss_cons (ps_for PassesOwn.never rfl (pi_range1 rfl A.T.range (pa_cons (pe_callB call_len_seq (by rfl) A.T.len PySem.boot_len (pa_cons (pv 1) pa_nil)) pa_nil)) (pg_name (i := 4) sc_law_shuffled.nd rfl (Or.inl rfl))
    (pss_one (ps_expr (pe_bm PySem.F.plainAttrs_list PySem.F.slot_list_append PySem.F.type_list_append mt_append (pv 3) (pa_cons (pe_bm PySem.F.plainAttrs_list PySem.F.slot_list_pop PySem.F.type_list_pop mt_popAt (pv 2) (pa_cons (pe_call (ok_law_next A) (hr.mono (by omega)) rfl A.law_next.m A.law_next.F.kp A.law_next.b .nil pass0 (pa_cons (pv 0) (pa_cons (pe_callB call_len_seq (by rfl) A.T.len PySem.boot_len (pa_cons (pv 2) pa_nil)) pa_nil))) pa_nil)) pa_nil)))))
  (pss_one (ps_ret (pv 3)))))), ?_⟩
    walk_at "rd"
    intro p np
    walk_at "rd"
    refine ⟨Nat.zero_le _, fun f nf => ?_⟩
    have nfp : f ≠ p := fun z => by rw [z, upd_same] at nf; cases nf
    have nf0 : H f = none := by rw [upd_ne nfp] at nf; exact nf
    have a0 : Adv [] H (upd (upd H p (.lst (nVl rows))) f (.lst [])) := (Adv.new np).trans (Adv.new nf)
    have sl : l ≠ st := str_nl hst hl
    have sp : st ≠ p := fun z => hst.here (by rw [z]; exact np)
    have sf : st ≠ f := fun z => hst.here (by rw [z]; exact nf0)
    have lp : l ≠ p := ne_of_none hl np
    have lf : l ≠ f := ne_of_none hl nf0
    walk_at "rd"
    rw [nVl_ln]
    refine ⟨by omega, by omega, ?_⟩
    refine for_range (lo := 0) (n := (rows.length : Int).toNat) (fun i σ' H' => ∃ (L F : List Nat) (y : Option V), σ' = [some (.ref st), some (.ref l), some (.ref p), some (.ref f), y] ∧ H' p = some (.lst (nVl L)) ∧ H' f = some (.lst (nVl F)) ∧ L.length + i = rows.length ∧ F.length = i ∧ (∀ r ∈ L, r ∈ rows) ∧ (∀ r ∈ F, r ∈ rows) ∧ StrAt (f :: p :: M) H' st ∧ Adv [st] H H')
      ⟨rows, [], none, rfl, by rw [upd_ne nfp.symm, upd_same], upd_same, rfl, rfl, fun r h => h, by simp, (((hst.fresh np).same (Adv.new np)).fresh nf).same (Adv.new nf), Adv.nil a0⟩ ?_ ?_
    · rintro i σ' H' hi ⟨L, F, y, rfl, hp, hf, hl1, hl2, m1, m2, hs, a⟩
      have hLp : 0 < L.length := by omega
      walk_at "rd"
      refine ⟨st, _, f :: p :: M, rfl, hs, by rw [nVl_ln]; omega, by rw [nVl_ln]; omega, fun d H2 d0 d1 hs2 a2 => ?_⟩
      obtain ⟨j, rfl⟩ : ∃ j : Nat, d = (j : Int) := ⟨d.toNat, by omega⟩
      rw [nVl_ln] at d1
      have hj : j < L.length := by omega
      have hp2 := a2 _ _ (notin1 sp.symm) hp
      have hf2 := a2 _ _ (notin1 sf.symm) hf
      walk_at "rd"
      refine ⟨p, _, (j : Nat), j, V.int (sA L j : Nat), rfl, rfl, hp2, by omega, by omega, seq_at (by rw [nVl_ln]; exact hj), nVl_get? hj, ?_⟩
      walk_at "rd"
      refine rd_app (by rw [upd_ne nfp]; exact hf2) (by rw [nVl_ln, sizeLine_eq]; omega) ?_
      have ms : sA L j ∈ L := by
        unfold sA
        rw [List.getD_eq_getElem?_getD, List.getElem?_eq_getElem hj]
        exact List.getElem_mem hj
      refine ⟨L.eraseIdx j, F ++ [sA L j], _, rfl, ?_, ?_, by rw [List.length_eraseIdx, if_pos hj]; omega, by rw [List.length_append, hl2]; rfl, fun r hr => m1 r (List.mem_of_mem_eraseIdx hr), fun r hr => ?_, ?_, ((a.trans a2).mut np).mut nf0⟩
      · rw [upd_ne nfp.symm, upd_same]
        unfold nVl
        rw [map_erase]
      · rw [upd_same]
        unfold nVl
        rw [List.map_append]
        rfl
      · rcases List.mem_append.mp hr with hr | hr
        · exact m2 r hr
        · rw [List.mem_singleton.mp hr]
          exact m1 _ ms
      · exact (hs2.adv (N := [p]) (Adv.set (by simp)) (notin1 sp) (by simp)).adv (N := [f]) (Adv.set (by simp)) (notin1 sf) (by simp)
    · rintro σ' H' ⟨L, F, y, rfl, hp, hf, hl1, hl2, m1, m2, hs, a⟩
      walk_at "rd"
      exact q f F H' nf0 hf (by omega) m2 (hs.less (by simp +contextual)) a
/-! ### _law_sees -/
structure SeeP (vs : List V) (H : Hp) (Q : VK) : Prop where
  ex : ∃ (v : V) (ss : List Nat) (L : Nat → Nat), vs = [v] ∧ RtM ss L ∧ Is [] H (modD ss L) v ∧ ∀ D H', H D = none → H' D = some (.lst (nVl ss)) → Adv [] H H' → Q (.ref D) H'
def spSee : Sp := fun vs H Q _ => SeeP vs H Q
theorem ok_law_sees (A : All K mg w) : FnOk P w K mg base CX0 1 A.law_sees.f A.law_sees.fd ["model"] spSee := by
  refine A.law_sees.F.ok sc_law_sees (fun vs H Q E h => ?_) (fun cdv Ar outer s H vs Q E hr h => ?_)
  · obtain ⟨v, ss, L, rfl, _⟩ := h.ex
    rfl
  · obtain ⟨v, ss, L, rfl, R, hv, q⟩ := h.ex
    refine ⟨_, (pss_cons (ps_set (i := 1) sc_law_sees.nd rfl (Or.inl rfl) (pe_op op_rep (pe_lst (pa_cons pe_int pa_nil)) (pe_ix ix_tup (pv 0) pe_int (fun _ _ => rfl))))
  (pss_cons (ps_for PassesOwn.never rfl (pi_list (pe_ix ix_tup (pv 0) pe_int (fun _ _ => rfl))) (pg_tup rfl (pgs_cons (pg_name (i := 2) sc_law_sees.nd rfl (Or.inl rfl)) (pgs_cons (pg_name (i := 3) sc_law_sees.nd rfl (Or.inl rfl)) pgs_nil)))
    (pss_one (ps_asg (pe_op op_or (pe_ix ix_list (pv 1) (pv 2) (fun _ _ => rfl)) (pe_op op_shl pe_int (pv 3))) (pg_sub (pv 1) (pv 2) set_list))))
  (pss_one (ps_ret (pv 1))))), ?_⟩
    obtain ⟨t, us, rfl, ht, hs⟩ := hv.tupE
    obtain ⟨u1, u2, u3, rfl, h1, h2, h3⟩ := three_at hs
    cases h1.intE
    have hz := R.le
    have za := arcs_z (ss := ss) (by omega)
    have sq := ht.sq A.W
    obtain ⟨l, prs, rfl, _, hl, hs2⟩ := h2.lstE
    have hlen := hs2.len
    rw [List.length_map] at hlen
    walk_at "rd"
    refine ⟨by show 1 ≤ sizeLine; decide, fun p np => ?_⟩
    have ap : Adv [] H (upd H p (.lst [.int 0])) := Adv.new np
    have sqp := (ht.adv ap).sq A.W
    walk_at "rd"
    refine ⟨p, (ss.length : Nat), [.int 0], rfl, rfl, upd_same, by omega, by omega, by rw [sizeLine_eq]; simp; omega, fun D nD => ?_⟩
    rw [Int.toNat_natCast, rep0]
    have aD := ap.newT (o := .lst (nVl (List.replicate ss.length 0))) nD
    have nD0 : H D = none := ap.free (by simp) nD
    have sqD := (ht.adv aD).sq A.W
    walk_at "rd"
    refine ⟨_, rfl, ?_⟩
    walk_at "rd"
    refine ⟨l, rfl, ⟨_, SqL.of (aD.same _ _ hl)⟩, ?_⟩
    have hb := arcs_lt ss
    refine for_list (a := l) (xs := prs) (fun i σ' H' => ∃ y3 y4, σ' = [some (.ref t), some (.ref D), y3, y4] ∧ H' D = some (.lst (nVl (masksF ss.length ((arcsF ss).take i)))) ∧ Adv [] H H') ⟨_, _, rfl, upd_same, aD⟩ ?_ ?_ ?_
    · rintro i σ' H' hi ⟨y3, y4, rfl, hD, a⟩
      exact SqL.of (a.same _ _ hl)
    · rintro i x σ' H' hx ⟨y3, y4, rfl, hD, a⟩
      obtain ⟨⟨v, w⟩, t, ha, rfl, ht⟩ := prs_at (hs2.adv a) hx
      obtain ⟨h1, h2⟩ := hb (v, w) (List.mem_of_getElem? ha)
      have h1 : v < ss.length := h1
      have h2 : w < ss.length := h2
      have ml : (masksF ss.length ((arcsF ss).take i)).length = ss.length := masks_len _ _
      refine rd_gtup (ht.sq A.W) rfl ?_
      walk_at "rd"
      refine ⟨D, _, (v : Nat), _, rfl, rfl, SqL.of hD, atI_nat (nVl_get? (by rw [ml]; exact h1)), ?_⟩
      walk_at "rd"
      refine rd_shl1 (by omega) (rd_bor ?_)
      walk_at "rd"
      refine ⟨D, _, (v : Nat), v, rfl, rfl, hD, ixN_of (by rw [nVl_ln, ml]; exact h1), ?_⟩
      walk_at "rd"
      refine ⟨_, _, rfl, ?_, a.mut nD0⟩
      rw [upd_same, nVl_set, take_snc ha, masksF_snoc]
    · rintro σ' H' ⟨y3, y4, rfl, hD, a⟩
      rw [hlen, List.take_length, masksF_arcs R.lt] at hD
      walk_at "rd"
      exact q D H' nD0 hD a
end
end K10

set_option Elab.async false
set_option linter.all false
set_option maxRecDepth 100000
set_option maxHeartbeats 400000
namespace K10
open PySem PySem.Spec PyProof.Rows L2 LL
open C8 (pss_cut)
local macro_rules | `(tactic| walk_at "ne") => `(tactic| first | assumption | (apply Ne.symm; assumption) | exact ne_of_none (by walk_at "hp") (by assumption) | exact (ne_of_none (by walk_at "hp") (by assumption)).symm)
local macro_rules | `(tactic| walk_at "nm") => `(tactic| first | assumption | exact notin0 | exact notin1 (by walk_at "ne") | exact notin2 (by walk_at "ne") (by walk_at "ne"))
local macro_rules | `(tactic| walk_at "hp") => `(tactic| first | assumption | exact upd_same | (refine Eq.trans (upd_ne ?ne) ?hh; (case hh => walk_at "hp"); (case ne => walk_at "ne")) | (refine Adv.get' (by assumption) ?hh ?nn; (case hh => walk_at "hp"); (case nn => walk_at "nm")))
local macro_rules | `(tactic| walk_at "tp") => `(tactic| first | assumption | exact Tp.adv (by walk_at "tp") (by assumption) | exact Tp.adv (by walk_at "tp") (Adv.nil (by assumption)))
local macro_rules | `(tactic| walk_at "sq") => `(tactic| first | assumption | exact Tp.sq (by assumption) (by walk_at "tp") | exact SqT.of (by walk_at "hp"))
local macro_rules | `(tactic| walk_at "at") => `(tactic| first | exact atI_nat (j := 0) rfl | exact atI_nat (j := 1) rfl | exact atI_nat (j := 2) rfl | exact atI_nat (j := 3) rfl | exact atI_nat (by assumption) | (rw [Int.zero_add]; exact atI_nat (by assumption)))
local macro_rules | `(tactic| walk_at "bb") => `(tactic| first | assumption | decide | exact rfl)
local macro_rules | `(tactic| walk_at "ci") => `(tactic| first | omega | (dsimp only; omega) | (unfold CDiv; omega) | (unfold CMul; omega))
local macro_rules | `(tactic| walk_at "rd1") => `(tactic| first
  | with_reducible refine rd_c ?_
  | ((with_reducible refine' rd_var ?rh ?_); (case rh => exact rfl))
  | with_reducible refine rd_op ?_
  | with_reducible refine rd_seq ?_
  | with_reducible refine rd_asg ?_
  | with_reducible refine rd_gname ?_
  | with_reducible refine rd_ifS ?_
  | with_reducible refine rd_test ?_
  | with_reducible refine rd_tB ?_
  | with_reducible refine rd_blP ?_
  | ((with_reducible refine' iteY ?rh ?_); (case rh => walk_at "bb"))
  | ((with_reducible refine' iteN ?rh ?_); (case rh => walk_at "bb"))
  | with_reducible refine rd_ret ?_
  | with_reducible refine rd_nx ?_
  | ((with_reducible refine' rd_eq ?rh ?_); (case rh => exact rfl))
  | ((with_reducible refine' rd_ne ?rh ?_); (case rh => exact rfl))
  | with_reducible refine rd_add ?_
  | with_reducible refine rd_sub ?_
  | with_reducible refine rd_i0 ?_
  | with_reducible refine rd_and ?_
  | with_reducible refine rd_or ?_
  | with_reducible refine rd_not ?_
  | with_reducible refine rd_andV ?_
  | with_reducible refine rd_orV ?_
  | with_reducible refine rd_notV ?_
  | with_reducible refine rd_ifE ?_
  | with_reducible refine rd_isN ?_
  | with_reducible refine rd_notN ?_
  | with_reducible refine rd_cons ?_
  | with_reducible refine rd_nil ?_
  | with_reducible refine rd_tup ?_
  | with_reducible refine rd_lst ?_
  | with_reducible refine rd_call ?_
  | with_reducible refine rd_cb ?_
  | with_reducible refine rd_meth ?_
  | with_reducible refine rd_callS ?_
  | with_reducible refine rd_make ?_
  | with_reducible refine rd_rfl ?_
  | with_reducible refine rd_fld ?_
  | with_reducible refine rd_drop ?_
  | with_reducible refine rd_gsub ?_
  | with_reducible refine rd_gcons ?_
  | with_reducible refine rd_gnil ?_
  | with_reducible refine rd_par ?_
  | with_reducible refine rd_two ?_
  | with_reducible refine rd_par3 ?_
  | with_reducible refine rd_three ?_
  | with_reducible refine rd_int1 ?_
  | ((with_reducible refine' rd_i ?rh ?_); (case rh => walk_at "ci"))
  | with_reducible refine rd_part ?_
  | with_reducible refine rd_nopart ?_
  | with_reducible refine rd_int ?_
  | with_reducible refine rd_sl ?_
  | with_reducible refine rd_bm ?_
  | with_reducible refine rd_bm0 ?_
  | with_reducible refine rd_dgetT ?_
  | with_reducible refine rd_din ?_
  | with_reducible refine rd_dnin ?_
  | with_reducible refine rd_un ?_
  | ((with_reducible refine' rd_ixL ?rh ?re ?_); (case rh => walk_at "hp"); (case re => walk_at "at"))
  | ((with_reducible refine' rd_ixT ?rh ?re ?_); (case rh => walk_at "sq"); (case re => walk_at "at"))
  | ((with_reducible refine' rd_lenT ?rh ?_); (case rh => walk_at "sq"))
  | ((with_reducible refine' rd_tyL ?rh ?_); (case rh => walk_at "hp"))
  | ((with_reducible refine' rd_len ?rh ?_); (case rh => walk_at "hp"))
  | with_reducible refine rd_u ?_
  | ((with_reducible refine' rd_slL ?rh ?_); (case rh => walk_at "hp"))
  | with_reducible refine rd_for ?_
  | with_reducible refine rd_rng1 ?_
  | with_reducible refine rd_rng2 ?_
  | with_reducible refine rd_ints1 ?_
  | with_reducible refine rd_ints2 ?_
  | with_reducible refine rd_retN ?_)
local macro_rules | `(tactic| walk_at "rd") => `(tactic| repeat walk_at "rd1")
section
variable [KW]
variable {P : Program} {w : World} {K : PySem.W.Frag} {mg : Str → Option Value} {base : Heap}
/-! ### _law_boxed -/
theorem boxM_and {ss : List Nat} {h : Nat} : ((List.range ss.length).filter fun v => decide (sA ss v &&& h = sA ss v)) = (List.range ss.length).filter fun v => decide (sA ss v ||| h = h) := by
  congr 1
  funext v
  exact decide_eq_decide.mpr (show Sub (sA ss v) h ↔ _ from or_sub.symm)
theorem ofI {f : Nat → Bool} {n : Nat} : (((List.range n).filter f).map fun i => V.int (0 + ((i : Nat) : Int))) = nVl ((List.range n).filter f) := by
  unfold nVl
  congr 1
  funext i
  rw [Int.zero_add]
structure BoxP (vs : List V) (H : Hp) (Q : VK) : Prop where
  ex : ∃ (l : Addr) (ss : List Nat) (h : Nat), vs = [.ref l, .int (h : Nat)] ∧ H l = some (.lst (nVl ss)) ∧ ss.length ≤ 400 ∧ ∀ H', Adv [] H H' → Q (.int (boxM ss h : Nat)) H'
def spBox : Sp := fun vs H Q _ => BoxP vs H Q
theorem ok_law_boxed (A : All K mg w) : FnOk P w K mg base CX0 2 A.law_boxed.f A.law_boxed.fd ["sees", "held"] spBox := by
  refine A.law_boxed.F.ok sc_law_boxed (fun vs H Q E h => ?_) (fun cdv Ar outer s H vs Q E hr h => ?_)
  · obtain ⟨l, ss, g, rfl, _⟩ := h.ex
    rfl
  · obtain ⟨l, ss, g, rfl, hl, hz, q⟩ := h.ex
    refine ⟨_, (pss_one (ps_ret (pe_call (ok_law_bits A) (hr.mono (by omega)) rfl A.law_bits.m A.law_bits.F.kp A.law_bits.b .nil pass0 (pa_cons (pe_lc (own := [("v", 2)]) (g := (gName 2)) rfl sc_law_boxed.nd (pi_range1 rfl A.T.range (pa_cons (pe_callB call_len_seq (by rfl) A.T.len PySem.boot_len (pa_cons (pv 0) pa_nil)) pa_nil)) (blkOk_by (own := [("v", 2)]) (N := ["sees", "held", "v"]) (sc := defScope s_law_boxed) (by decide +kernel)) (fun _ _ _ _ _ => pg_name (i := 2) sc_law_boxed.nd rfl (Or.inl rfl)) (fun _ _ _ _ _ => pts_one (pt_cmpR op_eq (pe_op op_and (pe_ix (ix_listK K rfl) (pv 0) (pv 2) (fun _ _ => rfl)) (pv 1)) (pe_ix (ix_listK K rfl) (pv 0) (pv 2) (fun _ _ => rfl)) (nomark _))) (fun _ _ _ _ _ => (pv 2))) pa_nil)))), ?_⟩
    walk_at "rd"
    unfold tLc iRng1
    walk_at "rd"
    rw [nVl_ln]
    refine ⟨by omega, by omega, fun D nD => ?_⟩
    refine lc_filtRl (lo := 0) (n := ((ss.length : Nat) : Int).toNat) (fun i => V.int (0 + ((i : Nat) : Int))) (fun v => decide (sA ss v &&& g = sA ss v)) nD (by omega) ?_ ?_
    · intro i H' acc R R0 hi aH hD k k0
      have hl' := aH.same _ _ hl
      have hi2 : i < ss.length := by omega
      have e1 := nVl_get? (l := ss) hi2
      refine ⟨rfl, ?_⟩
      walk_at "rd"
      rw [band]
      have e2 : decide (V.int ((sA ss i &&& g : Nat) : Int) = V.int ((sA ss i : Nat) : Int)) = decide (sA ss i &&& g = sA ss i) := decide_eq_decide.mpr nat_ne
      rw [e2]
      refine iteB (fun e => ?_) (fun e => ?_)
      · exact ⟨_, rfl, k e H' hD aH⟩
      · exact k0 e H' hD aH
    · intro H' aH hD
      rw [Int.toNat_natCast, ofI, boxM_and] at hD
      refine ⟨D, _, rfl, hD, fun r hr => ?_, q H' aH⟩
      have := List.mem_range.mp (List.mem_filter.mp hr).1
      omega
/-! ### _law_reach -/
structure ReaP (vs : List V) (H : Hp) (Q : VK) : Prop where
  ex : ∃ (l : Addr) (ss : List Nat), vs = [.ref l] ∧ H l = some (.lst (nVl ss)) ∧ ss.length ≤ 400 ∧ (∀ x ∈ ss, x < 2 ^ ss.length) ∧ ∀ D ss' H', H D = none → H' D = some (.lst (nVl ss')) → ss'.length = ss.length → (∀ x ∈ ss', x < 2 ^ ss.length) → Adv [] H H' → Q (.ref D) H'
def spRea : Sp := fun vs H Q _ => ReaP vs H Q
theorem set_lt {l : List Nat} {i x n : Nat} (h : ∀ y ∈ l, y < 2 ^ n) (hx : x < 2 ^ n) : ∀ y ∈ l.set i x, y < 2 ^ n := fun y hy => by
  rcases List.mem_or_eq_of_mem_set hy with h1 | rfl
  · exact h y h1
  · exact hx
theorem ok_law_reach (A : All K mg w) : FnOk P w K mg base CX0 1 A.law_reach.f A.law_reach.fd ["sees"] spRea := by
  refine A.law_reach.F.ok sc_law_reach (fun vs H Q E h => ?_) (fun cdv Ar outer s H vs Q E hr h => ?_)
  · obtain ⟨l, ss, rfl, _⟩ := h.ex
    rfl
  · obtain ⟨l, ss, rfl, hl, hz, hlt, q⟩ := h.ex
    refine ⟨_, (pss_cons (ps_set (i := 1) sc_law_reach.nd rfl (Or.inl rfl) (pe_callTy call_list_of (by rfl) A.T.list (by decide +kernel) (pa_cons (pv 0) pa_nil)))
  (pss_cons (ps_for PassesOwn.never rfl (pi_range1 rfl A.T.range (pa_cons (pe_callB call_len_seq (by rfl) A.T.len PySem.boot_len (pa_cons (pv 1) pa_nil)) pa_nil)) (pg_name (i := 2) sc_law_reach.nd rfl (Or.inl rfl))
    (pss_one (ps_for PassesOwn.never rfl (pi_range1 rfl A.T.range (pa_cons (pe_callB call_len_seq (by rfl) A.T.len PySem.boot_len (pa_cons (pv 1) pa_nil)) pa_nil)) (pg_name (i := 3) sc_law_reach.nd rfl (Or.inl rfl))
    (pss_one (ps_if (pt_cmpR op_ne (pe_op op_and (pe_ix ix_list (pv 1) (pv 3) (fun _ _ => rfl)) (pe_op op_shl pe_int (pv 2))) pe_int (nomark _))
    (pss_one (ps_asg (pe_op op_or (pe_ix ix_list (pv 1) (pv 3) (fun _ _ => rfl)) (pe_ix ix_list (pv 1) (pv 2) (fun _ _ => rfl))) (pg_sub (pv 1) (pv 3) set_list)))
    pss_nil)))))
  (pss_one (ps_ret (pv 1))))), ?_⟩
    walk_at "rd"
    intro D nD
    have aD : Adv [] H (upd H D (.lst (nVl ss))) := Adv.new nD
    walk_at "rd"
    rw [nVl_ln]
    refine ⟨by omega, by omega, ?_⟩
    refine for_range (lo := 0) (n := (ss.length : Int).toNat) (fun i σ' H' => ∃ (ss' : List Nat) (y z : Option V), σ' = [some (.ref l), some (.ref D), y, z] ∧ H' D = some (.lst (nVl ss')) ∧ ss'.length = ss.length ∧ (∀ x ∈ ss', x < 2 ^ ss.length) ∧ Adv [] H H')
      ⟨ss, _, _, rfl, upd_same, rfl, hlt, aD⟩ ?_ ?_
    · rintro i σ' H1 hi ⟨ss1, y, z, rfl, hD, hn, hlt1, a⟩
      walk_at "rd"
      rw [nVl_ln, hn]
      refine ⟨by omega, by omega, ?_⟩
      refine for_range (lo := 0) (n := (ss.length : Int).toNat) (fun j σ' H' => ∃ (ss' : List Nat) (z : Option V), σ' = [some (.ref l), some (.ref D), some (.int (0 + (i : Int))), z] ∧ H' D = some (.lst (nVl ss')) ∧ ss'.length = ss.length ∧ (∀ x ∈ ss', x < 2 ^ ss.length) ∧ Adv [] H H')
        ⟨ss1, _, rfl, hD, hn, hlt1, a⟩ ?_ ?_
      · rintro j σ' H2 hj ⟨ss2, z, rfl, hD, hn, hlt2, a⟩
        have e1 := nVl_get? (l := ss2) (i := i) (by omega)
        have e2 := nVl_get? (l := ss2) (i := j) (by omega)
        walk_at "rd"
        rw [Int.zero_add]
        refine rd_shl1 (by omega) (rd_band ?_)
        walk_at "rd"
        refine iteB (fun e => ?_) (fun e => ?_)
        · walk_at "rd"
          rw [bor]
          refine ⟨D, _, _, j, rfl, rfl, hD, ?_, ?_⟩
          · rw [Int.zero_add]; exact ixN_of (by rw [nVl_ln]; omega)
          walk_at "rd"
          refine ⟨ss2.set j (sA ss2 j ||| sA ss2 i), _, rfl, ?_, by rw [List.length_set]; exact hn, set_lt hlt2 (Nat.or_lt_two_pow (sA_lt hlt2 _) (sA_lt hlt2 _)), a.mut nD⟩
          rw [upd_same, nVl_set]
        · walk_at "rd"
          exact ⟨ss2, _, rfl, hD, hn, hlt2, a⟩
      · rintro σ' H2 ⟨ss2, z, rfl, hD, hn, hlt2, a⟩
        exact ⟨ss2, _, _, rfl, hD, hn, hlt2, a⟩
    · rintro σ' H1 ⟨ss1, y, z, rfl, hD, hn, hlt1, a⟩
      walk_at "rd"
      exact q D ss1 H1 nD hD hn hlt1 a
/-! ### _law_arcs -/
def arcsI (ss : List Nat) (i : Nat) : List (Nat × Nat) := (List.range i).flatMap fun v => (bitsL ss.length (sA ss v)).map fun w => (v, w)
structure LarP (vs : List V) (H : Hp) (Q : VK) : Prop where
  ex : ∃ (M : List Addr) (l : Addr) (ss : List Nat), vs = [.ref l] ∧ (∀ b ∈ M, H b ≠ none) ∧ H l = some (.lst (nVl ss)) ∧ ss.length ≤ 256 ∧ (∀ x ∈ ss, x < 2 ^ ss.length) ∧ ∀ v H', Is M H' (arcsD (arcsF ss)) v → Adv [] H H' → Q v H'
def spLar : Sp := fun vs H Q _ => LarP vs H Q
theorem arcsI_len (ss : List Nat) : ∀ i, (arcsI ss i).length ≤ i * ss.length
  | 0 => by simp [arcsI]
  | i + 1 => by
    unfold arcsI
    rw [List.range_succ, List.flatMap_append, List.length_append, Nat.add_mul]
    have h1 : ((List.range i).flatMap fun v => (bitsL ss.length (sA ss v)).map fun w => (v, w)).length ≤ i * ss.length := arcsI_len ss i
    have h2 := bitsL_len ss.length (sA ss i)
    simp only [List.flatMap_cons, List.flatMap_nil, List.append_nil, List.length_map]
    omega
theorem ok_law_arcs (A : All K mg w) : FnOk P w K mg base CX0 2 A.law_arcs.f A.law_arcs.fd ["sees"] spLar := by
  refine A.law_arcs.F.ok sc_law_arcs (fun vs H Q E h => ?_) (fun cdv Ar outer s H vs Q E hr h => ?_)
  · obtain ⟨M, l, ss, rfl, _⟩ := h.ex
    rfl
  · obtain ⟨M, l, ss, rfl, al, hl, hz, hlt, q⟩ := h.ex
    refine ⟨_, (pss_cons (ps_set (i := 1) sc_law_arcs.nd rfl (Or.inl rfl) (pe_lst pa_nil))
  (pss_cons (ps_for PassesOwn.never rfl (pi_range1 rfl A.T.range (pa_cons (pe_callB call_len_seq (by rfl) A.T.len PySem.boot_len (pa_cons (pv 0) pa_nil)) pa_nil)) (pg_name (i := 2) sc_law_arcs.nd rfl (Or.inr rfl))
    (pss_one (ps_expr (pe_bm PySem.F.plainAttrs_list PySem.F.slot_list_extend PySem.F.type_list_extend mt_extend (pv 1) (pa_cons (pe_lc (own := [("w", 3)]) (g := (gName 3)) rfl sc_law_arcs.nd (pi_list (pe_call (ok_law_listed A) (hr.mono (by omega)) rfl A.law_listed.m A.law_listed.F.kp A.law_listed.b .nil pass0 (pa_cons (pe_ix ix_list (pv 0) (pv 2) (fun _ _ => rfl)) (pa_cons (pe_callB call_len_seq (by rfl) A.T.len PySem.boot_len (pa_cons (pv 0) pa_nil)) pa_nil)))) (blkOk_by (own := [("w", 3)]) (N := ["sees", "found", "v", "w"]) (sc := defScope s_law_arcs) (by decide +kernel)) (fun _ _ _ _ _ => pg_name (i := 3) sc_law_arcs.nd rfl (Or.inl rfl)) (fun _ _ _ _ _ => pts_nil) (fun _ _ _ _ _ => (pe_tup (pa_cons (pv 2) (pa_cons (pv 3) pa_nil))))) pa_nil)))))
  (pss_one (ps_ret (pv 1))))), ?_⟩
    walk_at "rd"
    refine ⟨Nat.zero_le _, fun f nf => ?_⟩
    have aF : Adv [] H (upd H f (.lst [])) := Adv.new nf
    have lf : l ≠ f := ne_of_none hl nf
    walk_at "rd"
    rw [nVl_ln]
    refine ⟨by omega, by omega, ?_⟩
    refine for_range (lo := 0) (n := (ss.length : Int).toNat) (fun i σ' H' => ∃ (prs : List V) (y z : Option V), σ' = [some (.ref l), some (.ref f), y, z] ∧ H' f = some (.lst prs) ∧ IsDs (f :: M) H' ((arcsI ss i).map pD) prs ∧ Adv [] H H')
      ⟨[], _, _, rfl, upd_same, IsDs.nil, aF⟩ ?_ ?_
    · rintro i σ' H1 hi ⟨prs, y, z, rfl, hf, hp, a⟩
      have hl1 := a.same _ _ hl
      have e1 := nVl_get? (l := ss) (i := i) (by omega)
      have hpl := hp.len
      rw [List.length_map] at hpl
      have hil := arcsI_len ss i
      walk_at "rd"
      unfold tLc iList
      walk_at "rd"
      rw [nVl_ln]
      have e1' : atI (nVl ss) (0 + (i : Int)) = some (.int (sA ss i : Nat)) := by rw [Int.zero_add]; exact atI_nat e1
      refine ⟨sA ss i, ss.length, rfl, by omega, fun D1 H2 nD1 hD1 a1 => ?_⟩
      have fD1 : f ≠ D1 := ne_of_none hf nD1
      have hf2 := a1.same _ _ hf
      have bl := bitsL_len ss.length (sA ss i)
      refine ⟨D1, rfl, ⟨_, SqL.of hD1⟩, fun D nDD => ?_⟩
      have fD : f ≠ D := ne_of_none hf2 nDD
      refine lc_relL (xs := nVl (bitsL ss.length (sA ss i))) (fun j y H => ∃ w, (bitsL ss.length (sA ss i))[j]? = some w ∧ Is (D :: f :: M) H (pD (i, w)) y) nDD hD1 (by rw [nVl_ln]; omega) ?_ ?_ ?_
      · rintro j y H5 H6 ⟨m, h1, h2⟩ aa
        exact ⟨m, h1, h2.adv (aa.more (by simp))⟩
      · intro j y H' acc R' hy aH hDD k
        obtain ⟨w, hw, rfl⟩ := nVl_gt hy
        refine ⟨rfl, ?_⟩
        walk_at "rd"
        rw [Int.zero_add]
        refine ⟨by show 2 ≤ sizeLine; decide, fun t nt => ?_⟩
        have nDt : t ≠ D := fun z => by rw [z, hDD] at nt; cases nt
        have nft : t ≠ f := fun z => by rw [z, aH.same _ _ hf2] at nt; cases nt
        have tM : t ∉ M := fun z => alloc_adv al ((a.trans a1).trans aH) (by simp) t z nt
        refine k _ _ ((Adv.new (M := []) nt).same _ _ hDD) (Adv.new nt) ⟨w, hw, Is.tup upd_same (by simp [nDt, nft, tM]) (.cons Is.int (IsDs.one Is.int))⟩
      · intro H5 ys a5 hDD hys hrel
        have hf5 := a5.same _ _ hf2
        have hyl : ys.length = (bitsL ss.length (sA ss i)).length := by rw [hys, nVl_ln]
        walk_at "rd"
        refine ⟨f, D, prs, ys, rfl, rfl, hf5, hDD, by rw [sizeLine_eq]; have : i * ss.length ≤ 256 * ss.length := Nat.mul_le_mul_right _ (by omega); omega, ?_⟩
        walk_at "rd"
        have nf5 : Adv (f :: M) H5 (upd H5 f (.lst (prs ++ ys))) := Adv.set (by simp)
        refine ⟨prs ++ ys, _, _, rfl, upd_same, ?_, ((a.trans a1).trans a5).mut nf⟩
        have e3 : arcsI ss (i + 1) = arcsI ss i ++ (bitsL ss.length (sA ss i)).map fun w => (i, w) := by
          unfold arcsI
          rw [List.range_succ, List.flatMap_append]
          simp
        rw [e3, List.map_append]
        refine ((hp.adv ((a1.trans a5).more (by simp))).adv nf5).app (isds_of (by rw [hyl, List.length_map, List.length_map]) fun j d hd => ?_)
        rw [List.getElem?_map, List.getElem?_map, Option.map_map, Option.map_eq_some_iff] at hd
        obtain ⟨m, hm, rfl⟩ := hd
        have hi2 : j < ys.length := by rw [hyl]; exact (List.getElem?_eq_some_iff.mp hm).1
        obtain ⟨m', hm', hx⟩ := hrel j _ (List.getElem?_eq_getElem hi2)
        rw [hm] at hm'
        cases hm'
        exact ⟨_, List.getElem?_eq_getElem hi2, (hx.less (by simp +contextual)).adv nf5⟩
    · rintro σ' H1 ⟨prs, y, z, rfl, hf, hp, a⟩
      walk_at "rd"
      exact q _ H1 (Is.lst hf (fun z => al f z nf) (hp.less (by simp +contextual))) a
end
end K10

set_option Elab.async false
set_option linter.all false
set_option maxRecDepth 100000
set_option maxHeartbeats 400000
namespace K10
open PySem PySem.Spec PyProof.Rows L2 LL
open C8 (pss_cut)
local macro_rules | `(tactic| walk_at "ne") => `(tactic| first | assumption | (apply Ne.symm; assumption) | exact ne_of_none (by walk_at "hp") (by assumption) | exact (ne_of_none (by walk_at "hp") (by assumption)).symm)
local macro_rules | `(tactic| walk_at "nm") => `(tactic| first | assumption | exact notin0 | exact notin1 (by walk_at "ne") | exact notin2 (by walk_at "ne") (by walk_at "ne"))
local macro_rules | `(tactic| walk_at "hp") => `(tactic| first | assumption | exact upd_same | (refine Eq.trans (upd_ne ?ne) ?hh; (case hh => walk_at "hp"); (case ne => walk_at "ne")) | (refine Adv.get' (by assumption) ?hh ?nn; (case hh => walk_at "hp"); (case nn => walk_at "nm")))
local macro_rules | `(tactic| walk_at "tp") => `(tactic| first | assumption | exact Tp.adv (by walk_at "tp") (by assumption) | exact Tp.adv (by walk_at "tp") (Adv.nil (by assumption)))
local macro_rules | `(tactic| walk_at "sq") => `(tactic| first | assumption | exact Tp.sq (by assumption) (by walk_at "tp") | exact SqT.of (by walk_at "hp"))
local macro_rules | `(tactic| walk_at "at") => `(tactic| first | exact atI_nat (j := 0) rfl | exact atI_nat (j := 1) rfl | exact atI_nat (j := 2) rfl | exact atI_nat (j := 3) rfl | exact atI_nat (by assumption) | (rw [Int.zero_add]; exact atI_nat (by assumption)))
local macro_rules | `(tactic| walk_at "bb") => `(tactic| first | assumption | decide | exact rfl)
local macro_rules | `(tactic| walk_at "ci") => `(tactic| first | omega | (dsimp only; omega) | (unfold CDiv; omega) | (unfold CMul; omega))
local macro_rules | `(tactic| walk_at "rd1") => `(tactic| first
  | with_reducible refine rd_c ?_
  | ((with_reducible refine' rd_var ?rh ?_); (case rh => exact rfl))
  | with_reducible refine rd_op ?_
  | with_reducible refine rd_seq ?_
  | with_reducible refine rd_asg ?_
  | with_reducible refine rd_gname ?_
  | with_reducible refine rd_ifS ?_
  | with_reducible refine rd_test ?_
  | with_reducible refine rd_tB ?_
  | with_reducible refine rd_blP ?_
  | ((with_reducible refine' iteY ?rh ?_); (case rh => walk_at "bb"))
  | ((with_reducible refine' iteN ?rh ?_); (case rh => walk_at "bb"))
  | with_reducible refine rd_ret ?_
  | with_reducible refine rd_nx ?_
  | ((with_reducible refine' rd_eq ?rh ?_); (case rh => exact rfl))
  | ((with_reducible refine' rd_ne ?rh ?_); (case rh => exact rfl))
  | with_reducible refine rd_add ?_
  | with_reducible refine rd_sub ?_
  | with_reducible refine rd_i0 ?_
  | with_reducible refine rd_and ?_
  | with_reducible refine rd_or ?_
  | with_reducible refine rd_not ?_
  | with_reducible refine rd_andV ?_
  | with_reducible refine rd_orV ?_
  | with_reducible refine rd_notV ?_
  | with_reducible refine rd_ifE ?_
  | with_reducible refine rd_isN ?_
  | with_reducible refine rd_notN ?_
  | with_reducible refine rd_cons ?_
  | with_reducible refine rd_nil ?_
  | with_reducible refine rd_tup ?_
  | with_reducible refine rd_lst ?_
  | with_reducible refine rd_call ?_
  | with_reducible refine rd_cb ?_
  | with_reducible refine rd_meth ?_
  | with_reducible refine rd_callS ?_
  | with_reducible refine rd_make ?_
  | with_reducible refine rd_rfl ?_
  | with_reducible refine rd_fld ?_
  | with_reducible refine rd_drop ?_
  | with_reducible refine rd_gsub ?_
  | with_reducible refine rd_gcons ?_
  | with_reducible refine rd_gnil ?_
  | with_reducible refine rd_par ?_
  | with_reducible refine rd_two ?_
  | with_reducible refine rd_par3 ?_
  | with_reducible refine rd_three ?_
  | with_reducible refine rd_int1 ?_
  | ((with_reducible refine' rd_i ?rh ?_); (case rh => walk_at "ci"))
  | with_reducible refine rd_part ?_
  | with_reducible refine rd_nopart ?_
  | with_reducible refine rd_int ?_
  | with_reducible refine rd_sl ?_
  | with_reducible refine rd_bm ?_
  | with_reducible refine rd_bm0 ?_
  | with_reducible refine rd_dgetT ?_
  | with_reducible refine rd_din ?_
  | with_reducible refine rd_dnin ?_
  | with_reducible refine rd_un ?_
  | ((with_reducible refine' rd_ixL ?rh ?re ?_); (case rh => walk_at "hp"); (case re => walk_at "at"))
  | ((with_reducible refine' rd_ixT ?rh ?re ?_); (case rh => walk_at "sq"); (case re => walk_at "at"))
  | ((with_reducible refine' rd_lenT ?rh ?_); (case rh => walk_at "sq"))
  | ((with_reducible refine' rd_tyL ?rh ?_); (case rh => walk_at "hp"))
  | ((with_reducible refine' rd_len ?rh ?_); (case rh => walk_at "hp"))
  | with_reducible refine rd_u ?_
  | ((with_reducible refine' rd_slL ?rh ?_); (case rh => walk_at "hp"))
  | with_reducible refine rd_for ?_
  | with_reducible refine rd_rng1 ?_
  | with_reducible refine rd_rng2 ?_
  | with_reducible refine rd_ints1 ?_
  | with_reducible refine rd_ints2 ?_
  | with_reducible refine rd_retN ?_)
local macro_rules | `(tactic| walk_at "rd") => `(tactic| repeat walk_at "rd1")
section
variable [KW]
variable {P : Program} {w : World} {K : PySem.W.Frag} {mg : Str → Option Value} {base : Heap}
/-! ### _law_with -/
def LF (f : Nat → Option Nat) : Nat → Nat := fun i => (f i).getD 0
structure WthP (vs : List V) (H : Hp) (Q : VK) : Prop where
  ex : ∃ (M : List Addr) (l d : Addr) (ss : List Nat) (f : Nat → Option Nat), vs = [.ref l, .ref d] ∧ (∀ b ∈ M, H b ≠ none) ∧ H l = some (.lst (nVl ss)) ∧ RtM ss (LF f) ∧ LtD H d f ∧ ∀ v H', Is M H' (modD ss (LF f)) v → Adv [] H H' → Q v H'
def spWth : Sp := fun vs H Q _ => WthP vs H Q
theorem ok_law_with (A : All K mg w) : FnOk P w K mg base CX0 3 A.law_with.f A.law_with.fd ["sees", "letters"] spWth := by
  refine A.law_with.F.ok sc_law_with (fun vs H Q E h => ?_) (fun cdv Ar outer s H vs Q E hr h => ?_)
  · obtain ⟨M, l, d, ss, f, rfl, _⟩ := h.ex
    rfl
  · obtain ⟨M, l, d, ss, f, rfl, al, hl, R, hd, q⟩ := h.ex
    refine ⟨_, (pss_cons (ps_set (i := 2) sc_law_with.nd rfl (Or.inr rfl) (pe_callB call_len_seq (by rfl) A.T.len PySem.boot_len (pa_cons (pv 0) pa_nil)))
  (pss_one (ps_ret (pe_tup (pa_cons (pv 2) (pa_cons (pe_call (ok_law_arcs A) (hr.mono (by omega)) rfl A.law_arcs.m A.law_arcs.F.kp A.law_arcs.b .nil pass0 (pa_cons (pv 0) pa_nil)) (pa_cons (pe_callTy call_tuple_of (by rfl) A.T.tuple (by decide +kernel) (pa_cons (pe_lc (own := [("i", 3)]) (g := (gName 3)) rfl sc_law_with.nd (pi_range1 rfl A.T.range (pa_cons pe_int pa_nil)) (blkOk_by (own := [("i", 3)]) (N := ["sees", "letters", "worlds", "i"]) (sc := defScope s_law_with) (by decide +kernel)) (fun _ _ _ _ _ => pg_name (i := 3) sc_law_with.nd rfl (Or.inl rfl)) (fun _ _ _ _ _ => pts_nil) (fun _ _ _ _ _ => (pe_call (ok_law_listed A) (hr.mono (by omega)) rfl A.law_listed.m A.law_listed.F.kp A.law_listed.b .nil pass0 (pa_cons (pe_dget2 (hu_of hr) (pv 1) (pv 3) pe_int ⟨rfl, rfl, rfl, rfl⟩) (pa_cons (pv 2) pa_nil))))) pa_nil)) pa_nil))))))), ?_⟩
    have hz := R.le
    walk_at "rd"
    rw [nVl_ln]
    refine ⟨⟨M, l, ss, rfl, al, hl, hz, R.lt, fun va H1 hva a1 => ?_⟩⟩
    walk_at "rd"
    unfold tLc iRng1
    walk_at "rd"
    refine ⟨by decide, by decide, fun D nD => ?_⟩
    refine lc_dataR (M := M) (n := (8 : Int).toNat) (ltD ss.length (LF f)) (by rw [ltD_len]; rfl) nD (by decide) ?_ ?_
    · intro j dj H3 acc R' hj a3 hD k
      have hd3 := hd.adv (a1.trans a3) (by simp)
      unfold ltD at hj
      rw [List.getElem?_map, Option.map_eq_some_iff] at hj
      obtain ⟨j', hj', rfl⟩ := hj
      obtain ⟨hj8, e⟩ := List.getElem?_eq_some_iff.mp hj'
      rw [List.getElem_range] at e
      subst e
      refine ⟨rfl, ?_⟩
      walk_at "rd"
      rw [Int.zero_add]
      have ex : (((f j).map fun k => V.int (k : Nat)).getD (V.int 0)) = V.int (LF f j : Nat) := by
        unfold LF
        cases f j <;> rfl
      refine ⟨_, rfl, d, rfl, hd3.isD, _, rfl, _, hd3.get j, ?_⟩
      rw [ex]
      walk_at "rd"
      refine ⟨LF f j, ss.length, rfl, by omega, fun D1 H4 nD1 hD1 a4 => ?_⟩
      refine k _ _ (a4.same _ _ hD) a4.nil (Is.lst hD1 ?_ (nD_is _))
      have : D1 ≠ D := fun z => by rw [z, hD] at nD1; cases nD1
      have this2 : D1 ∉ M := fun z => alloc_adv al (a1.trans a3) (by simp) D1 z nD1
      simp [this, this2]
    · intro H3 acc a3 hD hacc
      walk_at "rd"
      refine ⟨D, acc, rfl, .inl ⟨SqL.of hD, fun t nt => ?_⟩⟩
      have at_ : Adv [] H3 (upd H3 t (.tup acc)) := Adv.new nt
      walk_at "rd"
      refine ⟨by show 3 ≤ sizeLine; decide, fun p np => ?_⟩
      have ap : Adv [] (upd H3 t (.tup acc)) (upd (upd H3 t (.tup acc)) p (.tup [.int (ss.length : Nat), va, .ref t])) := Adv.new np
      have ha := (hacc.less (N := M) (by simp +contextual)).adv ((at_.trans ap).more (by simp))
      have tM : t ∉ M := fun z => alloc_adv al (a1.trans a3) (by simp) t z nt
      have pM : p ∉ M := fun z => alloc_adv al ((a1.trans a3).trans at_) (by simp) p z np
      have hp3 : Is M (upd (upd H3 t (.tup acc)) p (.tup [.int (ss.length : Nat), va, .ref t])) (.tuple (ltD ss.length (LF f))) (.ref t) := Is.tup (ap.same _ _ upd_same) tM ha
      refine q _ _ (Is.tup upd_same pM (.cons Is.int (.cons (hva.adv (((a3.trans at_).trans ap).more (by simp))) (IsDs.one hp3)))) (((a1.trans a3).trans at_).trans ap)
/-! ### _law_is_right_model -/
def rightB (x : Str) (ss : List Nat) (L : Nat → Nat) : Bool := propB x ss && (!decide (x = "intuit") || keptB ss L)
theorem right_word {x : Str} {ss : List Nat} {L : Nat → Nat} : rightB x ss L = decide (wordF x ss L = none) := by
  unfold rightB wordF
  cases propB x ss <;> cases decide (x = "intuit") <;> cases keptB ss L <;> rfl
def glN (x : Str) (n : Nat) : Nat := if x = "gl" then 0 else n
theorem gl_if {x : Str} {n : Nat} {σ : L2.St} {H : Hp} {Kk : VK} (h2 : σ[2]? = some (some (.int (n : Nat)))) (h : Kk (V.int (glN x n : Nat)) H) : if decide (V.str x = V.str "gl") = true then tC (V.int 0) σ H Kk else tVar 2 σ H Kk := by
  unfold glN at h
  by_cases hx : x = "gl"
  · rw [if_pos hx] at h
    exact iteY (by rw [hx]; decide) h
  · rw [if_neg hx] at h
    exact iteN (str_ne hx) ⟨_, h2, h⟩
theorem prop_gl {x : Str} {ss : List Nat} (nc : x ≠ "classical") (nk : x ≠ "k") : propB x ss = (decide ((loopsL ss).length = glN x ss.length) && transB ss) := by
  unfold propB glN
  rw [if_neg nc, if_neg nk]
structure IrmP (vs : List V) (H : Hp) (Q : VK) : Prop where
  ex : ∃ (x : Str) (v : V) (ss : List Nat) (L : Nat → Nat), vs = [.str x, v] ∧ x ≠ "classical" ∧ x ≠ "k" ∧ RtM ss L ∧ Is [] H (modD ss L) v ∧ ∀ H', Adv [] H H' → Q (.bl (rightB x ss L)) H'
def spIrm : Sp := fun vs H Q _ => IrmP vs H Q
theorem ok_law_is_right_model (A : All K mg w) : FnOk P w K mg base CX0 3 A.law_is_right_model.f A.law_is_right_model.fd ["logic", "model"] spIrm := by
  refine A.law_is_right_model.F.ok sc_law_is_right_model (fun vs H Q E h => ?_) (fun cdv Ar outer s H vs Q E hr h => ?_)
  · obtain ⟨x, v, ss, L, rfl, _⟩ := h.ex
    rfl
  · obtain ⟨x, v, ss, L, rfl, nc, nk, R, hv, q⟩ := h.ex
    refine ⟨_, (pss_cons (ps_asg (pv 1) (pg_tup rfl (pgs_cons (pg_name (i := 2) sc_law_is_right_model.nd rfl (Or.inl rfl)) (pgs_cons (pg_name (i := 3) sc_law_is_right_model.nd rfl (Or.inl rfl)) (pgs_cons (pg_name (i := 4) sc_law_is_right_model.nd rfl (Or.inl rfl)) pgs_nil)))))
  (pss_cons (ps_set (i := 5) sc_law_is_right_model.nd rfl (Or.inr rfl) (pe_call (ok_law_sees A) (hr.mono (by omega)) rfl A.law_sees.m A.law_sees.F.kp A.law_sees.b .nil pass0 (pa_cons (pv 1) pa_nil)))
  (pss_cons (ps_if (pt_cmpR op_eq (pv 0) pe_str (nomark _))
    (pss_one (ps_ret (pe_and (pe_cmpR op_eq (pv 2) pe_int (nomark _)) (pe_one (pe_cmpR (op_eqD hr.units) (pv 3) (pe_lst pa_nil) (nomark _))))))
    pss_nil)
  (pss_cons (ps_if (pt_cmpR op_eq (pv 0) pe_str (nomark _))
    (pss_one (ps_ret pe_bl))
    pss_nil)
  (pss_cons (ps_setLc (i := 6) (own := [("v", 8)]) (g := (gName 8)) rfl sc_law_is_right_model.nd rfl rfl (sw_true rfl rfl rfl (by decide +kernel)) (pi_range1 rfl A.T.range (pa_cons (pv 2) pa_nil)) (blkOk_by (own := [("v", 8)]) (N := ["logic", "model", "worlds", "arcs", "letters", "sees", "loops", "held", "v", "arc", "rows", "bits"]) (sc := defScope s_law_is_right_model) (by decide +kernel)) (fun _ _ _ _ _ => pg_name (i := 8) sc_law_is_right_model.nd rfl (Or.inl rfl)) (fun _ _ _ _ _ => pts_one (pt_cmpR op_ne (pe_op op_and (pe_ix (ix_listK K rfl) (pv 5) (pv 8) (fun _ _ => rfl)) (pe_op op_shl pe_int (pv 8))) pe_int (nomark _))) (fun _ _ _ _ _ => (pv 8)))
  (pss_cons (ps_if (PW.pt (pw_or (pt_cmpR op_ne (pe_callB call_len_seq (by rfl) A.T.len PySem.boot_len (pa_cons (pv 6) pa_nil)) (pe_ifExp (pt_cmpR op_eq (pv 0) pe_str (nomark _)) pe_int (pv 2)) (nomark _)) (pw_or1 (pt_cmpR op_gt (pe_callB call_len_seq (by rfl) A.T.len PySem.boot_len (pa_cons (pe_lc (own := [("arc", 9)]) (g := (gName 9)) rfl sc_law_is_right_model.nd (pi_list (pv 3)) (blkOk_by (own := [("arc", 9)]) (N := ["logic", "model", "worlds", "arcs", "letters", "sees", "loops", "held", "v", "arc", "rows", "bits"]) (sc := defScope s_law_is_right_model) (by decide +kernel)) (fun _ _ _ _ _ => pg_name (i := 9) sc_law_is_right_model.nd rfl (Or.inl rfl)) (fun _ _ _ _ _ => pts_one (pt_cmpR op_ne (pe_op op_or (pe_ix (ix_listK K rfl) (pv 5) (pe_ix (ix_tupK K rfl) (pv 9) pe_int (fun _ _ => rfl)) (fun _ _ => rfl)) (pe_ix (ix_listK K rfl) (pv 5) (pe_ix (ix_tupK K rfl) (pv 9) pe_int (fun _ _ => rfl)) (fun _ _ => rfl))) (pe_ix (ix_listK K rfl) (pv 5) (pe_ix (ix_tupK K rfl) (pv 9) pe_int (fun _ _ => rfl)) (fun _ _ => rfl)) (nomark _))) (fun _ _ _ _ _ => (pv 9))) pa_nil)) pe_int (nomark _)))))
    (pss_one (ps_ret pe_bl))
    pss_nil)
  (pss_cons (ps_if (pt_cmpR op_ne (pv 0) pe_str (nomark _))
    (pss_one (ps_ret pe_bl))
    pss_nil)
  (pss_cons (ps_setLc (i := 7) (own := [("rows", 10)]) (g := (gName 10)) rfl sc_law_is_right_model.nd rfl rfl (sw_true rfl rfl rfl (by decide +kernel)) (pi_tup (pv 4)) (blkOk_by (own := [("rows", 10)]) (N := ["logic", "model", "worlds", "arcs", "letters", "sees", "loops", "held", "v", "arc", "rows", "bits"]) (sc := defScope s_law_is_right_model) (by decide +kernel)) (fun _ _ _ _ _ => pg_name (i := 10) sc_law_is_right_model.nd rfl (Or.inl rfl)) (fun _ _ _ _ _ => pts_nil) (fun _ _ _ _ _ => (pe_call (ok_law_bits A) (hr.mono (by omega)) rfl A.law_bits.m A.law_bits.F.kp A.law_bits.b .nil pass0 (pa_cons (pv 10) pa_nil))))
  (pss_one (ps_ret (pe_cmpR op_eq (pe_callB call_len_seq (by rfl) A.T.len PySem.boot_len (pa_cons (pe_lc (own := [("bits", 11)]) (g := (gName 11)) rfl sc_law_is_right_model.nd (pi_list (pv 7)) (blkOk_by (own := [("bits", 11)]) (N := ["logic", "model", "worlds", "arcs", "letters", "sees", "loops", "held", "v", "arc", "rows", "bits"]) (sc := defScope s_law_is_right_model) (by decide +kernel)) (fun _ _ _ _ _ => pg_name (i := 11) sc_law_is_right_model.nd rfl (Or.inl rfl)) (fun _ _ _ _ _ => pts_one (pt_cmpR op_ne (pe_op op_and (pe_call (ok_law_boxed A) (hr.mono (by omega)) rfl A.law_boxed.m A.law_boxed.F.kp A.law_boxed.b .nil pass0 (pa_cons (pv 5) (pa_cons (pv 11) pa_nil))) (pv 11)) (pv 11) (nomark _))) (fun _ _ _ _ _ => (pv 11))) pa_nil)) pe_int (nomark _)))))))))))), ?_⟩
    obtain ⟨t, us, rfl, ht, hs⟩ := hv.tupE
    obtain ⟨u1, u2, u3, rfl, h1, h2, h3⟩ := three_at hs
    cases h1.intE
    have hz := R.le
    have za := arcs_z (ss := ss) (by omega)
    have sq := ht.sq A.W
    walk_at "rd"
    refine rd_gtup sq rfl ?_
    walk_at "rd"
    refine ⟨⟨.ref t, ss, L, rfl, R, hv, fun D H1 nD hD a1 => ?_⟩⟩
    walk_at "rd"
    refine iteN (str_ne nc) ?_
    walk_at "rd"
    refine iteN (str_ne nk) ?_
    walk_at "rd"
    unfold tLc iRng1
    walk_at "rd"
    refine ⟨by omega, by omega, fun D2 nD2 => ?_⟩
    have dD2 : D ≠ D2 := ne_of_none hD nD2
    refine lc_filtRl (lo := 0) (n := ((ss.length : Nat) : Int).toNat) (fun i => V.int (0 + ((i : Nat) : Int))) (fun v => (sA ss v).testBit v) nD2 (by omega) ?_ ?_
    · intro i H' acc R' R0 hi aH hD2 k k0
      have hD' := aH.same _ _ hD
      have hi2 : i < ss.length := by omega
      have e1 := nVl_get? (l := ss) hi2
      refine ⟨rfl, ?_⟩
      walk_at "rd"
      rw [Int.zero_add] at k ⊢
      refine rd_shl1 (by omega) (rd_band ?_)
      walk_at "rd"
      rw [and_pow, Bool.not_not]
      refine iteB (fun e => ?_) (fun e => ?_)
      · exact ⟨_, rfl, k e H' hD2 aH⟩
      · exact k0 e H' hD2 aH
    · intro H2 a2 hD2
      rw [Int.toNat_natCast, ofI] at hD2
      have hD2 : H2 D2 = some (.lst (nVl (loopsL ss))) := hD2
      have hD := a2.same _ _ hD
      have a02 := a1.trans a2
      walk_at "rd"
      refine gl_if rfl ?_
      walk_at "rd"
      rw [nVl_ln]
      have e3 : decide (V.int ((loopsL ss).length : Nat) = V.int (glN x ss.length : Nat)) = decide ((loopsL ss).length = glN x ss.length) := decide_eq_decide.mpr nat_ne
      rw [e3]
      cases eL : decide ((loopsL ss).length = glN x ss.length) with
      | false =>
        refine iteY rfl (iteY rfl ?_)
        walk_at "rd"
        have q' := q H2 a02
        unfold rightB at q'
        rw [prop_gl nc nk, eL] at q'
        exact q'
      | true =>
        refine iteN rfl ?_
        walk_at "rd"
        obtain ⟨la, prs, rfl, _, hla, hs2⟩ := (h2.adv a02).lstE
        have hlen := hs2.len
        rw [List.length_map] at hlen
        unfold iList
        walk_at "rd"
        refine ⟨la, rfl, ⟨_, SqL.of hla⟩, fun D3 nD3 => ?_⟩
        have dD3 : D ≠ D3 := ne_of_none hD nD3
        refine lc_list (K := K) (a := la) (xs := prs) (fun i H' => Adv [] H2 H' ∧ ∃ ys, H' D3 = some (.lst ys) ∧ ys.length = (((arcsF ss).take i).filter (badA ss)).length) ⟨Adv.new nD3, [], upd_same, by simp⟩ (fun i H' _ p => SqL.of (p.1.same _ _ hla)) (fun i xv H' hx p => ?_) (fun H' p => ?_)
        · obtain ⟨a3, ys, hys, hyl⟩ := p
          obtain ⟨⟨v, w⟩, t, ha, rfl, ht⟩ := prs_at (hs2.adv a3) hx
          obtain ⟨h1, h2⟩ := arcs_lt ss (v, w) (List.mem_of_getElem? ha)
          have h1 : v < ss.length := h1
          have h2 : w < ss.length := h2
          have hD3 := a3.same _ _ hD
          have e1 := nVl_get? (l := ss) h1
          have e2 := nVl_get? (l := ss) h2
          have sqt := ht.sq A.W
          refine ⟨rfl, ?_⟩
          walk_at "rd"
          rw [bor]
          have eb : (!decide (V.int ((sA ss v ||| sA ss w : Nat) : Int) = V.int ((sA ss v : Nat) : Int))) = badA ss (v, w) := by
            unfold badA
            rw [show decide (V.int ((sA ss v ||| sA ss w : Nat) : Int) = V.int ((sA ss v : Nat) : Int)) = decide (sA ss v ||| sA ss w = sA ss v) from decide_eq_decide.mpr nat_ne]
          rw [eb]
          have et : ((arcsF ss).take (i + 1)).filter (badA ss) = ((arcsF ss).take i).filter (badA ss) ++ (if badA ss (v, w) = true then [(v, w)] else []) := by
            rw [take_snc ha, List.filter_append, List.filter_cons]
            rfl
          have il : i < prs.length := (List.getElem?_eq_some_iff.mp hx).1
          refine iteB (fun e => ?_) (fun e => ?_)
          · rw [if_pos e] at et
            have fl : (((arcsF ss).take i).filter (badA ss)).length ≤ 100000 := Nat.le_trans (List.length_filter_le _ _) (by rw [List.length_take]; omega)
            refine ⟨_, rfl, ys, hys, by rw [sizeLine_eq]; omega, a3.mut nD3, _, upd_same, ?_⟩
            rw [et, List.length_append, List.length_append, hyl]
            rfl
          · rw [if_neg (by rw [e]; decide), List.append_nil] at et
            exact ⟨a3, ys, hys, by rw [et]; exact hyl⟩
        obtain ⟨a3, ys, hys, hyl⟩ := p
        rw [hlen, List.take_length] at hyl
        have hD := a3.same _ _ hD
        walk_at "rd"
        have eT : decide ((0 : Int) < ((ys.length : Nat) : Int)) = !transB ss := by
          rw [transB_bad, hyl]
          by_cases c : ((arcsF ss).filter (badA ss)).length = 0
          · rw [c]; rfl
          · rw [decide_eq_false c, decide_eq_true (by omega)]; rfl
        rw [eT]
        have a03 := a02.trans a3
        cases eB : transB ss with
        | false =>
          refine iteY rfl ?_
          walk_at "rd"
          have q' := q H' a03
          unfold rightB at q'
          rw [prop_gl nc nk, eL, eB] at q'
          exact q'
        | true =>
          refine iteN rfl ?_
          walk_at "rd"
          unfold rightB at q
          rw [prop_gl nc nk, eL, eB] at q
          by_cases hi : x = "intuit"
          case neg =>
            refine iteY (by rw [str_ne hi]; rfl) ?_
            walk_at "rd"
            have q' := q H' a03
            rw [decide_eq_false hi] at q'
            exact q'
          refine iteN (by rw [hi]; decide) ?_
          walk_at "rd"
          obtain ⟨lt, lets, rfl, hlt, hsl⟩ := (h3.adv a03).tupE
          have hl8 : lets.length = 8 := by rw [hsl.len, ltD_len]
          refine ⟨_, rfl, lt, rfl, ⟨_, hlt.sq A.W⟩, fun D4 nD4 => ?_⟩
          have dD4 : D ≠ D4 := ne_of_none hD nD4
          refine lc_mapT (K := K) (a := lt) (xs := lets) (fun i => V.int (L i : Nat)) nD4 (hlt.sq A.W) (by omega) ?_ ?_
          · intro i xv H4 acc R' hx aH hD4 k
            obtain ⟨h8, l, rfl, _, hl⟩ := let_at (hsl.adv aH) hx
            refine ⟨rfl, ?_⟩
            walk_at "rd"
            refine ⟨l, _, rfl, hl, fun r hr => by have := (bitsL_mem.mp hr).1; omega, ?_⟩
            rw [bitsN_L (R.ll i)]
            exact k H4 hD4 aH
          · intro H4 a4 hD4
            have e8 : (List.range lets.length).map (fun i => V.int (L i : Nat)) = nVl ((List.range 8).map L) := by
              rw [hl8]
              unfold nVl
              rw [List.map_map]
              rfl
            rw [e8] at hD4
            have hD := a4.same _ _ hD
            walk_at "rd"
            refine ⟨D4, rfl, ⟨_, SqL.of hD4⟩, fun D5 nD5 => ?_⟩
            refine lc_filtL (T := (List.range 8).map L) (fun k => V.int (k : Nat)) (badK ss) nD5 hD4 (by simp) ?_ ?_
            · intro k H' acc R' R0 hk aH hD5 r r0
              have hD := aH.same _ _ hD
              refine ⟨rfl, ?_⟩
              walk_at "rd"
              refine ⟨⟨D, ss, k, rfl, hD, by omega, fun H6 a6 => ?_⟩⟩
              walk_at "rd"
              rw [band]
              have eb : (!decide (V.int ((boxM ss k &&& k : Nat) : Int) = V.int ((k : Nat) : Int))) = badK ss k := by
                unfold badK
                rw [show decide (V.int ((boxM ss k &&& k : Nat) : Int) = V.int ((k : Nat) : Int)) = decide (boxM ss k &&& k = k) from decide_eq_decide.mpr nat_ne]
              rw [eb]
              refine iteB (fun e => ?_) (fun e => ?_)
              · exact ⟨_, rfl, r e H6 (a6.same _ _ hD5) (aH.trans a6)⟩
              · exact r0 e H6 (a6.same _ _ hD5) (aH.trans a6)
            · intro H6 a6 hD5
              walk_at "rd"
              rw [List.length_map]
              have q' := q H6 ((a03.trans a4).trans a6)
              rw [decide_eq_true hi, keptB_bad R.ll] at q'
              have e : decide (V.int (((((List.range 8).map L).filter (badK ss)).length : Nat) : Int) = V.int 0) = decide ((((List.range 8).map L).filter (badK ss)).length = 0) := decide_eq_decide.mpr (nat_ne (b := 0))
              rw [e]
              exact q'
/-! ### _law_hold -/
structure HolP (vs : List V) (H : Hp) (Q : VK) : Prop where
  ex : ∃ (x : Str) (v : V) (sh rw : Addr) (rs : List V) (ss : List Nat) (L : Nat → Nat) (ns : List Nd) (rows : List Nat), vs = [.str x, v, .ref sh, .ref rw] ∧ logicOk x = true ∧ x ≠ "classical" ∧ wordF x ss L = none ∧ RtM ss L ∧ Is [] H (modD ss L) v ∧ H sh = some (.lst rs) ∧ IsDs [] H (ns.map Nd.data) rs ∧ okSheet (logicB x) ns ∧ ns.length ≤ 5000 ∧
    (H rw = some (.lst (nVl rows)) ∨ Tp [] H rw (nVl rows)) ∧ rows.length ≤ 1000 ∧ (∀ r ∈ rows, r < ns.length) ∧
    ∀ D H', H D = none → H' D = some (.lst (rows.map fun r => V.bl (decide (sA (tmF (decide (x = "intuit")) ss L ns) r = every ss.length)))) → Adv [] H H' → Q (.ref D) H'
def spHol : Sp := fun vs H Q _ => HolP vs H Q
theorem trs_at {M : List Addr} {H : Hp} {ss F : List Nat} {us : List V} (x : IsDs M H (trsD ss F) us) {r : Nat} (h : r < F.length) : ∃ t, us[r]? = some (.ref t) ∧ Tp M H t (nVl (bitsL ss.length (sA F r))) := by
  have e : (trsD ss F)[r]? = some (.tuple (nD (bitsL ss.length (sA F r)))) := by
    unfold trsD sA
    rw [List.getElem?_map, List.getElem?_eq_getElem h, List.getD_eq_getElem?_getD, List.getElem?_eq_getElem h]
    rfl
  obtain ⟨v, hv, hi⟩ := x.get e
  obtain ⟨t, vs, rfl, ht, hs⟩ := hi.tupE
  rw [nD_of hs] at ht
  exact ⟨t, hv, ht⟩
theorem rg_nat (n : Nat) : rgV 0 (n : Int) = nVl (List.range n) := by
  unfold rgV nVl
  have e : ((n : Int) - 0).toNat = n := by omega
  rw [e]
  congr 1
  funext i
  rw [Int.zero_add]
theorem ok_law_hold (A : All K mg w) (Z : Exs K mg) (Z1 : Er_BadModel Z) : FnOk P w K mg base CX0 11 A.law_hold.f A.law_hold.fd ["logic", "model", "sheet", "rows"] spHol := by
  refine A.law_hold.F.ok sc_law_hold (fun vs H Q E h => ?_) (fun cdv Ar outer s H vs Q E hr h => ?_)
  · obtain ⟨x, v, sh, rw, rs, ss, L, ns, rows, rfl, _⟩ := h.ex
    rfl
  · obtain ⟨x, v, sh, ra, rs, ss, L, ns, rows, rfl, lo, nc, wd, R, hv, hsh, hds, ok, hnl, hrw, hrl, hrb, q⟩ := h.ex
    refine ⟨_, (pss_cons (ps_set (i := 4) sc_law_hold.nd rfl (Or.inr rfl) (pe_call (ok_truths A Z Z1) (hr.mono (by omega)) rfl A.truths.m A.truths.F.kp A.truths.b .nil pass0 (pa_cons (pv 0) (pa_cons (pv 1) (pa_cons (pv 2) pa_nil)))))
  (pss_one (ps_ret (pe_lc (own := [("row", 5)]) (g := (gName 5)) rfl sc_law_hold.nd (pi_sq (pv 3)) (blkOk_by (own := [("row", 5)]) (N := ["logic", "model", "sheet", "rows", "told", "row"]) (sc := defScope s_law_hold) (by decide +kernel)) (fun _ _ _ _ _ => pg_name (i := 5) sc_law_hold.nd rfl (Or.inl rfl)) (fun _ _ _ _ _ => pts_nil) (fun _ _ _ _ _ => (pe_call (ok_law_same2 A) (hr.mono (by omega)) rfl A.law_same.m A.law_same.F.kp A.law_same.b .nil pass0 (pa_cons (pe_ix (ix_listK K rfl) (pv 4) (pv 5) (fun _ _ => rfl)) (pa_cons (pe_tupRg rfl rfl A.T.tuple (prg_1 rfl A.T.range (pe_ix (ix_tupK K rfl) (pv 1) pe_int (fun _ _ => rfl)))) pa_nil)))))))), ?_⟩
    have hz := R.le
    walk_at "rd"
    refine ⟨⟨x, v, sh, rs, ss, L, ns, rfl, lo, nc, wd, R, hv, hsh, hds, ok, hnl, fun D us H1 nD hD hus a1 => ?_⟩⟩
    walk_at "rd"
    have fl := tmF_len (decide (x = "intuit")) ss L ns
    have flt := tmF_lt (b := decide (x = "intuit")) R.ll ns
    unfold tLc iSq
    rcases hrw with hrw | hrw
    · refine .inl ⟨_, rfl, ra, rfl, ⟨_, SqL.of (a1.same _ _ hrw)⟩, fun D2 nD2 => ?_⟩
      refine lc_natL (K := K) (T := rows) (fun r => V.bl (decide (sA (tmF (decide (x = "intuit")) ss L ns) r = every ss.length))) nD2 (a1.same _ _ hrw) (by omega) (fun r H' acc R' hrm aH hD2 k => ?_) (fun H5 a5 hD2 => q D2 H5 (a1.free (by simp) nD2) hD2 (a1.trans a5))
      obtain ⟨t, hu, ht⟩ := trs_at (hus.adv aH) (r := r) (by rw [fl]; exact hrb r hrm)
      obtain ⟨tm, um, rfl, htm, hsm⟩ := (hv.adv (a1.trans aH)).tupE
      obtain ⟨u1, u2, u3, rfl, h1, h2, h3⟩ := three_at hsm
      cases h1.intE
      have sqm := htm.sq A.W
      have hD' := aH.same _ _ hD
      refine ⟨rfl, ?_⟩
      walk_at "rd"
      unfold tTupRg tRg1
      walk_at "rd"
      refine ⟨.of_le (by omega) (by omega) (by omega) (by omega), fun p np => ?_⟩
      have ap : Adv [] H' (upd H' p (.tup (rgV 0 (ss.length : Nat)))) := Adv.new np
      have ep : (upd H' p (.tup (rgV 0 (ss.length : Nat)))) p = some (.tup (nVl (List.range ss.length))) := by rw [upd_same, rg_nat]
      walk_at "rd"
      refine ⟨⟨t, p, _, _, rfl, ht.adv ap, Tp.of ep (by simp), by simp; omega, fun H5 a5 => ?_⟩⟩
      have eb : decide (bitsL ss.length (sA (tmF (decide (x = "intuit")) ss L ns) r) = List.range ss.length) = decide (sA (tmF (decide (x = "intuit")) ss L ns) r = every ss.length) := decide_eq_decide.mpr (bits_all (sA_lt flt r))
      rw [eb]
      exact k H5 (a5.same _ _ (ap.same _ _ hD2)) ((aH.trans ap).trans a5)
    · refine .inr ⟨_, rfl, ra, rfl, ⟨_, (hrw.adv a1).sq A.W⟩, fun D2 nD2 => ?_⟩
      refine lc_mapT (K := K) (a := ra) (xs := nVl rows) (fun i => V.bl (decide (sA (tmF (decide (x = "intuit")) ss L ns) (rows.getD i 0) = every ss.length))) nD2 ((hrw.adv a1).sq A.W) (by rw [nVl_ln]; omega) (fun i xv H' acc R' hx aH hD2 k => ?_) (fun H5 a5 hD2 => ?_)
      · obtain ⟨r, hr2, rfl⟩ := nVl_gt hx
        have hrm := List.mem_of_getElem? hr2
        have er : rows.getD i 0 = r := by rw [List.getD_eq_getElem?_getD, hr2]; rfl
        rw [er] at k
        obtain ⟨t, hu, ht⟩ := trs_at (hus.adv aH) (r := r) (by rw [fl]; exact hrb r hrm)
        obtain ⟨tm, um, rfl, htm, hsm⟩ := (hv.adv (a1.trans aH)).tupE
        obtain ⟨u1, u2, u3, rfl, h1, h2, h3⟩ := three_at hsm
        cases h1.intE
        have sqm := htm.sq A.W
        have hD' := aH.same _ _ hD
        refine ⟨rfl, ?_⟩
        walk_at "rd"
        unfold tTupRg tRg1
        walk_at "rd"
        refine ⟨.of_le (by omega) (by omega) (by omega) (by omega), fun p np => ?_⟩
        have ap : Adv [] H' (upd H' p (.tup (rgV 0 (ss.length : Nat)))) := Adv.new np
        have ep : (upd H' p (.tup (rgV 0 (ss.length : Nat)))) p = some (.tup (nVl (List.range ss.length))) := by rw [upd_same, rg_nat]
        walk_at "rd"
        refine ⟨⟨t, p, _, _, rfl, ht.adv ap, Tp.of ep (by simp), by simp; omega, fun H5 a5 => ?_⟩⟩
        have eb : decide (bitsL ss.length (sA (tmF (decide (x = "intuit")) ss L ns) r) = List.range ss.length) = decide (sA (tmF (decide (x = "intuit")) ss L ns) r = every ss.length) := decide_eq_decide.mpr (bits_all (sA_lt flt r))
        rw [eb]
        exact k H5 (a5.same _ _ (ap.same _ _ hD2)) ((aH.trans ap).trans a5)
      · refine q D2 H5 (a1.free (by simp) nD2) ?_ (a1.trans a5)
        rw [hD2, nVl_ln]
        congr 2
        apply List.ext_getElem
        · simp
        · intro i h1 h2
          rw [List.getElem_map, List.getElem_map, List.getElem_range, List.getD_eq_getElem?_getD, List.getElem?_eq_getElem (by simpa using h2)]
          rfl
end
end K10

set_option Elab.async false
set_option linter.all false
set_option maxRecDepth 100000
set_option maxHeartbeats 400000
namespace K10
open PySem PySem.Spec PyProof.Rows L2 LL
open C8 (pss_cut)
local macro_rules | `(tactic| walk_at "ne") => `(tactic| first | assumption | (apply Ne.symm; assumption) | exact ne_of_none (by walk_at "hp") (by assumption) | exact (ne_of_none (by walk_at "hp") (by assumption)).symm)
local macro_rules | `(tactic| walk_at "nm") => `(tactic| first | assumption | exact notin0 | exact notin1 (by walk_at "ne") | exact notin2 (by walk_at "ne") (by walk_at "ne"))
local macro_rules | `(tactic| walk_at "hp") => `(tactic| first | assumption | exact upd_same | (refine Eq.trans (upd_ne ?ne) ?hh; (case hh => walk_at "hp"); (case ne => walk_at "ne")) | (refine Adv.get' (by assumption) ?hh ?nn; (case hh => walk_at "hp"); (case nn => walk_at "nm")))
local macro_rules | `(tactic| walk_at "tp") => `(tactic| first | assumption | exact Tp.adv (by walk_at "tp") (by assumption) | exact Tp.adv (by walk_at "tp") (Adv.nil (by assumption)))
local macro_rules | `(tactic| walk_at "sq") => `(tactic| first | assumption | exact Tp.sq (by assumption) (by walk_at "tp") | exact SqT.of (by walk_at "hp"))
local macro_rules | `(tactic| walk_at "at") => `(tactic| first | exact atI_nat (j := 0) rfl | exact atI_nat (j := 1) rfl | exact atI_nat (j := 2) rfl | exact atI_nat (j := 3) rfl | exact atI_nat (by assumption) | (rw [Int.zero_add]; exact atI_nat (by assumption)))
local macro_rules | `(tactic| walk_at "bb") => `(tactic| first | assumption | decide | exact rfl)
local macro_rules | `(tactic| walk_at "ci") => `(tactic| first | omega | (dsimp only; omega) | (unfold CDiv; omega) | (unfold CMul; omega))
local macro_rules | `(tactic| walk_at "rd1") => `(tactic| first
  | with_reducible refine rd_c ?_
  | ((with_reducible refine' rd_var ?rh ?_); (case rh => exact rfl))
  | with_reducible refine rd_op ?_
  | with_reducible refine rd_seq ?_
  | with_reducible refine rd_asg ?_
  | with_reducible refine rd_gname ?_
  | with_reducible refine rd_ifS ?_
  | with_reducible refine rd_test ?_
  | with_reducible refine rd_tB ?_
  | with_reducible refine rd_blP ?_
  | ((with_reducible refine' iteY ?rh ?_); (case rh => walk_at "bb"))
  | ((with_reducible refine' iteN ?rh ?_); (case rh => walk_at "bb"))
  | with_reducible refine rd_ret ?_
  | with_reducible refine rd_nx ?_
  | ((with_reducible refine' rd_eq ?rh ?_); (case rh => exact rfl))
  | ((with_reducible refine' rd_ne ?rh ?_); (case rh => exact rfl))
  | with_reducible refine rd_add ?_
  | with_reducible refine rd_sub ?_
  | with_reducible refine rd_i0 ?_
  | with_reducible refine rd_and ?_
  | with_reducible refine rd_or ?_
  | with_reducible refine rd_not ?_
  | with_reducible refine rd_andV ?_
  | with_reducible refine rd_orV ?_
  | with_reducible refine rd_notV ?_
  | with_reducible refine rd_ifE ?_
  | with_reducible refine rd_isN ?_
  | with_reducible refine rd_notN ?_
  | with_reducible refine rd_cons ?_
  | with_reducible refine rd_nil ?_
  | with_reducible refine rd_tup ?_
  | with_reducible refine rd_lst ?_
  | with_reducible refine rd_call ?_
  | with_reducible refine rd_cb ?_
  | with_reducible refine rd_meth ?_
  | with_reducible refine rd_callS ?_
  | with_reducible refine rd_make ?_
  | with_reducible refine rd_rfl ?_
  | with_reducible refine rd_fld ?_
  | with_reducible refine rd_drop ?_
  | with_reducible refine rd_gsub ?_
  | with_reducible refine rd_gcons ?_
  | with_reducible refine rd_gnil ?_
  | with_reducible refine rd_par ?_
  | with_reducible refine rd_two ?_
  | with_reducible refine rd_par3 ?_
  | with_reducible refine rd_three ?_
  | with_reducible refine rd_int1 ?_
  | ((with_reducible refine' rd_i ?rh ?_); (case rh => walk_at "ci"))
  | with_reducible refine rd_part ?_
  | with_reducible refine rd_nopart ?_
  | with_reducible refine rd_int ?_
  | with_reducible refine rd_sl ?_
  | with_reducible refine rd_bm ?_
  | with_reducible refine rd_bm0 ?_
  | with_reducible refine rd_dgetT ?_
  | with_reducible refine rd_din ?_
  | with_reducible refine rd_dnin ?_
  | with_reducible refine rd_un ?_
  | ((with_reducible refine' rd_ixL ?rh ?re ?_); (case rh => walk_at "hp"); (case re => walk_at "at"))
  | ((with_reducible refine' rd_ixT ?rh ?re ?_); (case rh => walk_at "sq"); (case re => walk_at "at"))
  | ((with_reducible refine' rd_lenT ?rh ?_); (case rh => walk_at "sq"))
  | ((with_reducible refine' rd_tyL ?rh ?_); (case rh => walk_at "hp"))
  | ((with_reducible refine' rd_len ?rh ?_); (case rh => walk_at "hp"))
  | with_reducible refine rd_u ?_
  | ((with_reducible refine' rd_slL ?rh ?_); (case rh => walk_at "hp"))
  | with_reducible refine rd_for ?_
  | with_reducible refine rd_rng1 ?_
  | with_reducible refine rd_rng2 ?_
  | with_reducible refine rd_ints1 ?_
  | with_reducible refine rd_ints2 ?_
  | with_reducible refine rd_retN ?_)
local macro_rules | `(tactic| walk_at "rd") => `(tactic| repeat walk_at "rd1")
section
variable [KW]
variable {P : Program} {w : World} {K : PySem.W.Frag} {mg : Str → Option Value} {base : Heap}
/-! ### _law_lets -/
structure LtsP (vs : List V) (H : Hp) (Q : VK) : Prop where
  ex : ∃ (x : Str) (v : V) (ss : List Nat) (L : Nat → Nat), vs = [.str x, v] ∧ logicOk x = true ∧ x ≠ "classical" ∧ RtM ss L ∧ Is [] H (modD ss L) v ∧ ∀ H', Adv [] H H' → Q (.bl (decide (wordF x ss L = none))) H'
def spLts : Sp := fun vs H Q _ => LtsP vs H Q
theorem word_or {x : Str} {ss : List Nat} {L : Nat → Nat} {z : Str} (h : wordF x ss L = some z) : z = "arcs" ∨ z = "letters" := by
  unfold wordF at h
  split at h
  · injection h with h; exact .inl h.symm
  · split at h
    · injection h with h; exact .inr h.symm
    · cases h
theorem ok_law_lets (A : All K mg w) (Z : Exs K mg) (Z1 : Er_BadModel Z) : FnOk P w K mg base CX0 12 A.law_lets.f A.law_lets.fd ["logic", "model"] spLts := by
  refine A.law_lets.F.ok sc_law_lets (fun vs H Q E h => ?_) (fun cdv Ar outer s H vs Q E hr h => ?_)
  · obtain ⟨x, v, ss, L, rfl, _⟩ := h.ex
    rfl
  · obtain ⟨x, v, ss, L, rfl, lo, nc, R, hv, q⟩ := h.ex
    refine ⟨_, (pss_one (ps_tryAs (n := "e") (i := 2) (Wout := fun _ _ _ _ => False) rfl rfl sc_law_lets.nd rfl rfl takes_no
    (fun W pn xe tk po => (pss_one (ps_ret (pe_cmpR op_isN (pe_callS (ok_check_model A Z Z1) (hr.mono (by omega)) rfl A.check_model.m A.check_model.F.kp A.check_model.b (fun σ => L2N.passAt tk σ) (pa_cons (pv 0) (pa_cons (pv 1) pa_nil))) pe_non (nomark _)))))
    (.cons (c := .ref (Z.cA "BadModel")) ⟨rfl, by decide, .inl (Z.mA "BadModel" (by decide))⟩ (fun a oe cls d pn hz hf => (pss_one (ps_ret (pe_ifExp (pt_cmpR (op_inK K rfl) (pe_xf Z1.X Z1.A_ hz.zc hf (pv 2)) (pe_tup (pa_cons pe_str (pa_cons pe_str pa_nil))) rfl) pe_bl pe_non)))) (.dead (c := .ref Z.CE) ⟨rfl, by decide, .inl Z.mC⟩ .nil)))), ?_⟩
    walk_at "rd"
    refine ⟨⟨x, v, ss, L, rfl, lo, nc, R, hv, fun wd H1 a1 => ?_, fun z hz dd H2 a2 n2 hdd => ?_⟩⟩
    · walk_at "rd"
      have q' := q H1 a1
      rw [wd] at q'
      exact q'
    · refine ⟨true, Z1.N.hS, fun _ a na => ?_, (fun z => nomatch z)⟩
      walk_at "rd"
      refine ⟨_, rfl, rfl, rfl, dd, _, .str z, rfl, hdd, rfl, ?_⟩
      walk_at "rd"
      refine ⟨by show 2 ≤ sizeLine; decide, fun p np => ?_⟩
      refine ⟨p, _, rfl, .inr (SqT.of upd_same), rfl, rfl, ?_⟩
      have ei : inV (V.str z) [V.str "arcs", V.str "letters"] = true := by rcases word_or hz with rfl | rfl <;> decide +kernel
      show ∃ k, V.bl (inV (V.str z) [V.str "arcs", V.str "letters"]) = V.bl k ∧ _
      rw [ei]
      refine ⟨_, rfl, iteY rfl ?_⟩
      have q' := q (upd H2 p (.tup [.str "arcs", .str "letters"])) (a2.newT np)
      rw [hz] at q'
      exact q'
/-! ### _law_schemes -/
theorem oth_ne (i : Nat) : otherI i ≠ i := by
  unfold otherI
  split <;> omega
theorem sch_nd (i : Nat) : (schN i).Nodup := by
  have := oth_ne i
  unfold schN
  simp [this.symm]
theorem sch_rowF {i k : Nat} {n : Nd} (h : (schN i)[k]? = some n) : rowF ((schN i).take k) n = (k, (schN i).take (k + 1)) := by
  obtain ⟨hk, e⟩ := List.getElem?_eq_some_iff.mp h
  have hn : n ∉ (schN i).take k := fun z => by
    obtain ⟨j, hj, ej⟩ := List.mem_iff_getElem.mp z
    rw [List.length_take] at hj
    rw [List.getElem_take] at ej
    have hj2 : j < (schN i).length := by omega
    exact List.pairwise_iff_getElem.mp (sch_nd i) j k hj2 hk (by omega) (ej.trans e.symm)
  unfold rowF
  rw [if_neg hn, take_snc h, List.length_take]
  congr 1
  omega
theorem sch_row {M : List Addr} {H : Hp} {bk b0 b1 p : Addr} {i k : Nat} {Q : VK} (n : Nd) (hn : (schN i)[k]? = some n) (kM : bk ∉ M) (hbk : H bk = some (.lst [.ref b0, .ref b1])) (B : BkN M H b0 b1 ((schN i).take k)) (hp : H p = none)
    (q : ∀ H', H' bk = some (.lst [.ref b0, .ref b1]) → BkN M H' b0 b1 ((schN i).take (k + 1)) → Adv [b0, b1] H H' → Q (.int (k : Nat)) H') : RowP [.ref bk, .ref p] (upd H p (.tup (n.keys.map kV))) Q := by
  have a : Adv [] H (upd H p (.tup (n.keys.map kV))) := Adv.new hp
  have e := sch_rowF hn
  have hk : bk ∉ [b0, b1] := fun z => kM (by
    rcases List.mem_cons.mp z with z | z
    · rw [z]; exact B.m0
    · rw [List.mem_singleton.mp z]; exact B.m1)
  refine ⟨⟨M, bk, b0, b1, p, _, n, rfl, a.same _ _ hbk, kM, B.same a, Tp.of upd_same (not_mem_new B.al hp), by rw [List.length_take]; have : (schN i).length = 14 := rfl; omega, fun H' B' a' => ?_⟩⟩
  rw [e] at B' ⊢
  exact q H' (a' _ _ hk (a.same _ _ hbk)) B' (a.nil.trans a')
theorem oth_if {i : Nat} {σ : L2.St} {H : Hp} {Kk : VK} (h : Kk (V.int (otherI i : Nat)) H) : if decide (V.int ((i : Nat) : Int) = V.int 0) = true then tC (V.int 1) σ H Kk else tC (V.int 0) σ H Kk := by
  unfold otherI at h
  by_cases hi : i = 0
  · rw [if_pos hi] at h
    exact iteY (by rw [hi]; rfl) h
  · rw [if_neg hi] at h
    exact iteN (decide_eq_false fun z => hi (by have := V.int.inj z; omega)) h
structure SchP (vs : List V) (H : Hp) (Q : VK) : Prop where
  ex : ∃ (M : List Addr) (i : Nat), vs = [.int (i : Nat)] ∧ (∀ b ∈ M, H b ≠ none) ∧ i < 8 ∧ ∀ p sh rs u H', H' p = some (.tup [.ref sh, .ref u]) → H' sh = some (.lst rs) → sh ∉ M → IsDs M H' ((schN i).map Nd.data) rs → H' u = some (.tup (nVl [3, 5, 7, 12, 13])) → u ∉ M → Adv [] H H' → Q (.ref p) H'
def spSch : Sp := fun vs H Q _ => SchP vs H Q
theorem ok_law_schemes (A : All K mg w) : FnOk P w K mg base CX0 2 A.law_schemes.f A.law_schemes.fd ["i"] spSch := by
  refine A.law_schemes.F.ok sc_law_schemes (fun vs H Q E h => ?_) (fun cdv Ar outer s H vs Q E hr h => ?_)
  · obtain ⟨M, i, rfl, _⟩ := h.ex
    rfl
  · obtain ⟨M, i, rfl, al, hi, q⟩ := h.ex
    refine ⟨_, (pss_cons (ps_set (i := 1) sc_law_schemes.nd rfl (Or.inl rfl) (pe_lst (pa_cons (pe_lst pa_nil) (pa_cons (pe_dnewX A.W) pa_nil))))
  (pss_cons (ps_set (i := 2) sc_law_schemes.nd rfl (Or.inl rfl) (pe_call (ok_law_row A) (hr.mono (by omega)) rfl A.law_row.m A.law_row.F.kp A.law_row.b .nil pass0 (pa_cons (pv 1) (pa_cons (pe_tup (pa_cons pe_str (pa_cons (pv 0) pa_nil))) pa_nil))))
  (pss_cons (ps_set (i := 3) sc_law_schemes.nd rfl (Or.inl rfl) (pe_call (ok_law_row A) (hr.mono (by omega)) rfl A.law_row.m A.law_row.F.kp A.law_row.b .nil pass0 (pa_cons (pv 1) (pa_cons (pe_tup (pa_cons pe_str (pa_cons (pe_ifExp (pt_cmpR op_eq (pv 0) pe_int (nomark _)) pe_int pe_int) pa_nil))) pa_nil))))
  (pss_cons (ps_set (i := 4) sc_law_schemes.nd rfl (Or.inl rfl) (pe_call (ok_law_row A) (hr.mono (by omega)) rfl A.law_row.m A.law_row.F.kp A.law_row.b .nil pass0 (pa_cons (pv 1) (pa_cons (pe_tup (pa_cons pe_str (pa_cons (pv 2) pa_nil))) pa_nil))))
  (pss_cons (ps_set (i := 5) sc_law_schemes.nd rfl (Or.inl rfl) (pe_call (ok_law_row A) (hr.mono (by omega)) rfl A.law_row.m A.law_row.F.kp A.law_row.b .nil pass0 (pa_cons (pv 1) (pa_cons (pe_tup (pa_cons pe_str (pa_cons (pv 4) (pa_cons (pv 2) pa_nil)))) pa_nil))))
  (pss_cons (ps_set (i := 6) sc_law_schemes.nd rfl (Or.inl rfl) (pe_call (ok_law_row A) (hr.mono (by omega)) rfl A.law_row.m A.law_row.F.kp A.law_row.b .nil pass0 (pa_cons (pv 1) (pa_cons (pe_tup (pa_cons pe_str (pa_cons (pv 4) (pa_cons (pe_call (ok_law_row A) (hr.mono (by omega)) rfl A.law_row.m A.law_row.F.kp A.law_row.b .nil pass0 (pa_cons (pv 1) (pa_cons (pe_tup (pa_cons pe_str (pa_cons (pv 4) pa_nil))) pa_nil))) pa_nil)))) pa_nil))))
  (pss_cons (ps_set (i := 7) sc_law_schemes.nd rfl (Or.inl rfl) (pe_call (ok_law_row A) (hr.mono (by omega)) rfl A.law_row.m A.law_row.F.kp A.law_row.b .nil pass0 (pa_cons (pv 1) (pa_cons (pe_tup (pa_cons pe_str (pa_cons (pe_call (ok_law_row A) (hr.mono (by omega)) rfl A.law_row.m A.law_row.F.kp A.law_row.b .nil pass0 (pa_cons (pv 1) (pa_cons (pe_tup (pa_cons pe_str (pa_cons (pv 5) pa_nil))) pa_nil))) (pa_cons (pv 4) pa_nil)))) pa_nil))))
  (pss_cons (ps_set (i := 8) sc_law_schemes.nd rfl (Or.inl rfl) (pe_call (ok_law_row A) (hr.mono (by omega)) rfl A.law_row.m A.law_row.F.kp A.law_row.b .nil pass0 (pa_cons (pv 1) (pa_cons (pe_tup (pa_cons pe_str (pa_cons (pe_call (ok_law_row A) (hr.mono (by omega)) rfl A.law_row.m A.law_row.F.kp A.law_row.b .nil pass0 (pa_cons (pv 1) (pa_cons (pe_tup (pa_cons pe_str (pa_cons (pv 2) (pa_cons (pv 3) pa_nil)))) pa_nil))) pa_nil))) pa_nil))))
  (pss_cons (ps_set (i := 9) sc_law_schemes.nd rfl (Or.inl rfl) (pe_call (ok_law_row A) (hr.mono (by omega)) rfl A.law_row.m A.law_row.F.kp A.law_row.b .nil pass0 (pa_cons (pv 1) (pa_cons (pe_tup (pa_cons pe_str (pa_cons (pv 8) (pa_cons (pe_call (ok_law_row A) (hr.mono (by omega)) rfl A.law_row.m A.law_row.F.kp A.law_row.b .nil pass0 (pa_cons (pv 1) (pa_cons (pe_tup (pa_cons pe_str (pa_cons (pv 4) (pa_cons (pe_call (ok_law_row A) (hr.mono (by omega)) rfl A.law_row.m A.law_row.F.kp A.law_row.b .nil pass0 (pa_cons (pv 1) (pa_cons (pe_tup (pa_cons pe_str (pa_cons (pv 3) pa_nil))) pa_nil))) pa_nil)))) pa_nil))) pa_nil)))) pa_nil))))
  (pss_cons (ps_set (i := 10) sc_law_schemes.nd rfl (Or.inl rfl) (pe_call (ok_law_row A) (hr.mono (by omega)) rfl A.law_row.m A.law_row.F.kp A.law_row.b .nil pass0 (pa_cons (pv 1) (pa_cons (pe_tup (pa_cons pe_str (pa_cons (pv 2) (pa_cons (pv 4) pa_nil)))) pa_nil))))
  (pss_one (ps_ret (pe_tup (pa_cons (pe_ix ix_list (pv 1) pe_int (fun _ _ => rfl)) (pa_cons (pe_tup (pa_cons (pv 5) (pa_cons (pv 6) (pa_cons (pv 7) (pa_cons (pv 9) (pa_cons (pv 10) pa_nil)))))) pa_nil))))))))))))))), ?_⟩
    walk_at "rd"
    refine ⟨Nat.zero_le _, fun b0 n0 => ?_⟩
    walk_at "rd"
    intro b1 n1
    walk_at "rd"
    refine ⟨by show 2 ≤ sizeLine; decide, fun bk nk => ?_⟩
    have n1' : H b1 = none := (Adv.new (M := []) n0).free (by simp) n1
    have e01 : b0 ≠ b1 := fun z => by rw [← z, upd_same] at n1; cases n1
    have ek0 : bk ≠ b0 := fun z => by rw [z, upd_ne e01, upd_same] at nk; cases nk
    have ek1 : bk ≠ b1 := fun z => by rw [z, upd_same] at nk; cases nk
    have b0M : b0 ∉ M := fun z => al b0 z n0
    have bkM : bk ∉ M := fun z => alloc_adv al ((Adv.new (M := []) (o := .lst []) n0).newT (o := dxo b1 []) n1) (by simp) bk z nk
    have kM : bk ∉ b0 :: b1 :: M := by simp [ek0, ek1, bkM]
    have aB : Adv [] H (upd (upd (upd H b0 (.lst [])) b1 (dxo b1 [])) bk (.lst [.ref b0, .ref b1])) := ((Adv.new (o := .lst []) n0).newT (o := dxo b1 []) n1).newT (o := .lst [.ref b0, .ref b1]) nk
    have hbk : (upd (upd (upd H b0 (.lst [])) b1 (dxo b1 [])) bk (.lst [.ref b0, .ref b1])) bk = some (.lst [.ref b0, .ref b1]) := upd_same
    have h0 : (upd (upd (upd H b0 (.lst [])) b1 (dxo b1 [])) bk (.lst [.ref b0, .ref b1])) b0 = some (.lst []) := by rw [upd_ne ek0.symm, upd_ne e01, upd_same]
    have h1 : (upd (upd (upd H b0 (.lst [])) b1 (dxo b1 [])) bk (.lst [.ref b0, .ref b1])) b1 = some (dxo b1 []) := by rw [upd_ne ek1.symm, upd_same]
    have B : BkN (b0 :: b1 :: M) (upd (upd (upd H b0 (.lst [])) b1 (dxo b1 [])) bk (.lst [.ref b0, .ref b1])) b0 b1 ((schN i).take 0) := ⟨⟨[], h0, IsDs.nil⟩, Tab.new h1, by simp, by simp, e01, fun b hb => by
      rcases List.mem_cons.mp hb with z | z
      · rw [z, h0]; simp
      · rcases List.mem_cons.mp z with z | z
        · rw [z, h1]; simp
        · exact alloc_adv al aB (by simp) b z⟩
    have a : Adv [b0, b1] H (upd (upd (upd H b0 (.lst [])) b1 (dxo b1 [])) bk (.lst [.ref b0, .ref b1])) := aB.nil
    clear h0 h1
    generalize upd (upd (upd H b0 (.lst [])) b1 (dxo b1 [])) bk (.lst [.ref b0, .ref b1]) = H0 at *
    walk_at "rd"
    refine ⟨by show 2 ≤ sizeLine; decide, fun t0 nt0 => ?_⟩
    walk_at "rd"
    refine sch_row (i := i) (k := 0) (n := .letter i) rfl kM hbk B nt0 (fun H1 hbk B a1 => ?_)
    replace a := a.trans a1
    walk_at "rd"
    refine oth_if ?_
    walk_at "rd"
    refine ⟨by show 2 ≤ sizeLine; decide, fun t1 nt1 => ?_⟩
    walk_at "rd"
    refine sch_row (i := i) (k := 1) (n := .letter (otherI i)) rfl kM hbk B nt1 (fun H2 hbk B a2 => ?_)
    replace a := a.trans a2
    walk_at "rd"
    refine ⟨by show 2 ≤ sizeLine; decide, fun t2 nt2 => ?_⟩
    walk_at "rd"
    refine sch_row (i := i) (k := 2) (n := .box 0) rfl kM hbk B nt2 (fun H3 hbk B a3 => ?_)
    replace a := a.trans a3
    walk_at "rd"
    refine ⟨by show 3 ≤ sizeLine; decide, fun t3 nt3 => ?_⟩
    walk_at "rd"
    refine sch_row (i := i) (k := 3) (n := .bin .imp 2 0) rfl kM hbk B nt3 (fun H4 hbk B a4 => ?_)
    replace a := a.trans a4
    walk_at "rd"
    refine ⟨by show 2 ≤ sizeLine; decide, fun t4 nt4 => ?_⟩
    walk_at "rd"
    refine sch_row (i := i) (k := 4) (n := .box 2) rfl kM hbk B nt4 (fun H5 hbk B a5 => ?_)
    replace a := a.trans a5
    walk_at "rd"
    refine ⟨by show 3 ≤ sizeLine; decide, fun t5 nt5 => ?_⟩
    walk_at "rd"
    refine sch_row (i := i) (k := 5) (n := .bin .imp 2 4) rfl kM hbk B nt5 (fun H6 hbk B a6 => ?_)
    replace a := a.trans a6
    walk_at "rd"
    refine ⟨by show 2 ≤ sizeLine; decide, fun t6 nt6 => ?_⟩
    walk_at "rd"
    refine sch_row (i := i) (k := 6) (n := .box 3) rfl kM hbk B nt6 (fun H7 hbk B a7 => ?_)
    replace a := a.trans a7
    walk_at "rd"
    refine ⟨by show 3 ≤ sizeLine; decide, fun t7 nt7 => ?_⟩
    walk_at "rd"
    refine sch_row (i := i) (k := 7) (n := .bin .imp 6 2) rfl kM hbk B nt7 (fun H8 hbk B a8 => ?_)
    replace a := a.trans a8
    walk_at "rd"
    refine ⟨by show 3 ≤ sizeLine; decide, fun t8 nt8 => ?_⟩
    walk_at "rd"
    refine sch_row (i := i) (k := 8) (n := .bin .imp 0 1) rfl kM hbk B nt8 (fun H9 hbk B a9 => ?_)
    replace a := a.trans a9
    walk_at "rd"
    refine ⟨by show 2 ≤ sizeLine; decide, fun t9 nt9 => ?_⟩
    walk_at "rd"
    refine sch_row (i := i) (k := 9) (n := .box 8) rfl kM hbk B nt9 (fun H10 hbk B a10 => ?_)
    replace a := a.trans a10
    walk_at "rd"
    refine ⟨by show 2 ≤ sizeLine; decide, fun t10 nt10 => ?_⟩
    walk_at "rd"
    refine sch_row (i := i) (k := 10) (n := .box 1) rfl kM hbk B nt10 (fun H11 hbk B a11 => ?_)
    replace a := a.trans a11
    walk_at "rd"
    refine ⟨by show 3 ≤ sizeLine; decide, fun t11 nt11 => ?_⟩
    walk_at "rd"
    refine sch_row (i := i) (k := 11) (n := .bin .imp 2 10) rfl kM hbk B nt11 (fun H12 hbk B a12 => ?_)
    replace a := a.trans a12
    walk_at "rd"
    refine ⟨by show 3 ≤ sizeLine; decide, fun t12 nt12 => ?_⟩
    walk_at "rd"
    refine sch_row (i := i) (k := 12) (n := .bin .imp 9 11) rfl kM hbk B nt12 (fun H13 hbk B a13 => ?_)
    replace a := a.trans a13
    walk_at "rd"
    refine ⟨by show 3 ≤ sizeLine; decide, fun t13 nt13 => ?_⟩
    walk_at "rd"
    refine sch_row (i := i) (k := 13) (n := .bin .imp 0 2) rfl kM hbk B nt13 (fun H14 hbk B a14 => ?_)
    replace a := a.trans a14
    walk_at "rd"
    refine ⟨by show 5 ≤ sizeLine; decide, fun u nu => ?_⟩
    walk_at "rd"
    refine ⟨by show 2 ≤ sizeLine; decide, fun p np => ?_⟩
    have au : Adv [] H14 (upd H14 u (.tup [.int (3 : Nat), .int (5 : Nat), .int (7 : Nat), .int (12 : Nat), .int (13 : Nat)])) := Adv.new nu
    have ap := au.newT (o := .tup [.ref b0, .ref u]) np
    have pu : u ≠ p := fun z => by rw [← z, upd_same] at np; cases np
    obtain ⟨rs, h0, hd⟩ := B.rows
    have nb0 : H b0 = none := n0
    have a' : Adv [] H H14 := fun b o hb e => a b o (notin2 (ne_of_none e n0) (ne_of_none e n1')) e
    have uM : u ∉ M := fun z => alloc_adv al a' (by simp) u z nu
    refine q p b0 rs u _ upd_same (ap.same _ _ h0) b0M ((hd.adv (ap.more (by simp))).less (by simp +contextual)) ?_ uM (a'.trans ap)
    rw [upd_ne pu, upd_same]
    rfl
end
end K10

set_option Elab.async false
set_option linter.all false
set_option maxRecDepth 100000
set_option maxHeartbeats 400000
namespace K10
open PySem PySem.Spec PyProof.Rows L2 LL
open C8 (pss_cut)
local macro_rules | `(tactic| walk_at "ne") => `(tactic| first | assumption | (apply Ne.symm; assumption) | exact ne_of_none (by walk_at "hp") (by assumption) | exact (ne_of_none (by walk_at "hp") (by assumption)).symm)
local macro_rules | `(tactic| walk_at "nm") => `(tactic| first | assumption | exact notin0 | exact notin1 (by walk_at "ne") | exact notin2 (by walk_at "ne") (by walk_at "ne"))
local macro_rules | `(tactic| walk_at "hp") => `(tactic| first | assumption | exact upd_same | (refine Eq.trans (upd_ne ?ne) ?hh; (case hh => walk_at "hp"); (case ne => walk_at "ne")) | (refine Adv.get' (by assumption) ?hh ?nn; (case hh => walk_at "hp"); (case nn => walk_at "nm")))
local macro_rules | `(tactic| walk_at "tp") => `(tactic| first | assumption | exact Tp.adv (by walk_at "tp") (by assumption) | exact Tp.adv (by walk_at "tp") (Adv.nil (by assumption)))
local macro_rules | `(tactic| walk_at "sq") => `(tactic| first | assumption | exact Tp.sq (by assumption) (by walk_at "tp") | exact SqT.of (by walk_at "hp"))
local macro_rules | `(tactic| walk_at "at") => `(tactic| first | exact atI_nat (j := 0) rfl | exact atI_nat (j := 1) rfl | exact atI_nat (j := 2) rfl | exact atI_nat (j := 3) rfl | exact atI_nat (by assumption) | (rw [Int.zero_add]; exact atI_nat (by assumption)))
local macro_rules | `(tactic| walk_at "bb") => `(tactic| first | assumption | decide | exact rfl)
local macro_rules | `(tactic| walk_at "ci") => `(tactic| first | omega | (dsimp only; omega) | (unfold CDiv; omega) | (unfold CMul; omega))
local macro_rules | `(tactic| walk_at "rd1") => `(tactic| first
  | with_reducible refine rd_c ?_
  | ((with_reducible refine' rd_var ?rh ?_); (case rh => exact rfl))
  | with_reducible refine rd_op ?_
  | with_reducible refine rd_seq ?_
  | with_reducible refine rd_asg ?_
  | with_reducible refine rd_gname ?_
  | with_reducible refine rd_ifS ?_
  | with_reducible refine rd_test ?_
  | with_reducible refine rd_tB ?_
  | with_reducible refine rd_blP ?_
  | ((with_reducible refine' iteY ?rh ?_); (case rh => walk_at "bb"))
  | ((with_reducible refine' iteN ?rh ?_); (case rh => walk_at "bb"))
  | with_reducible refine rd_ret ?_
  | with_reducible refine rd_nx ?_
  | ((with_reducible refine' rd_eq ?rh ?_); (case rh => exact rfl))
  | ((with_reducible refine' rd_ne ?rh ?_); (case rh => exact rfl))
  | with_reducible refine rd_add ?_
  | with_reducible refine rd_sub ?_
  | with_reducible refine rd_i0 ?_
  | with_reducible refine rd_and ?_
  | with_reducible refine rd_or ?_
  | with_reducible refine rd_not ?_
  | with_reducible refine rd_andV ?_
  | with_reducible refine rd_orV ?_
  | with_reducible refine rd_notV ?_
  | with_reducible refine rd_ifE ?_
  | with_reducible refine rd_isN ?_
  | with_reducible refine rd_notN ?_
  | with_reducible refine rd_cons ?_
  | with_reducible refine rd_nil ?_
  | with_reducible refine rd_tup ?_
  | with_reducible refine rd_lst ?_
  | with_reducible refine rd_call ?_
  | with_reducible refine rd_cb ?_
  | with_reducible refine rd_meth ?_
  | with_reducible refine rd_callS ?_
  | with_reducible refine rd_make ?_
  | with_reducible refine rd_rfl ?_
  | with_reducible refine rd_fld ?_
  | with_reducible refine rd_drop ?_
  | with_reducible refine rd_gsub ?_
  | with_reducible refine rd_gcons ?_
  | with_reducible refine rd_gnil ?_
  | with_reducible refine rd_par ?_
  | with_reducible refine rd_two ?_
  | with_reducible refine rd_par3 ?_
  | with_reducible refine rd_three ?_
  | with_reducible refine rd_int1 ?_
  | ((with_reducible refine' rd_i ?rh ?_); (case rh => walk_at "ci"))
  | with_reducible refine rd_part ?_
  | with_reducible refine rd_nopart ?_
  | with_reducible refine rd_int ?_
  | with_reducible refine rd_sl ?_
  | with_reducible refine rd_bm ?_
  | with_reducible refine rd_bm0 ?_
  | with_reducible refine rd_dgetT ?_
  | with_reducible refine rd_din ?_
  | with_reducible refine rd_dnin ?_
  | with_reducible refine rd_un ?_
  | ((with_reducible refine' rd_ixL ?rh ?re ?_); (case rh => walk_at "hp"); (case re => walk_at "at"))
  | ((with_reducible refine' rd_ixT ?rh ?re ?_); (case rh => walk_at "sq"); (case re => walk_at "at"))
  | ((with_reducible refine' rd_lenT ?rh ?_); (case rh => walk_at "sq"))
  | ((with_reducible refine' rd_tyL ?rh ?_); (case rh => walk_at "hp"))
  | ((with_reducible refine' rd_len ?rh ?_); (case rh => walk_at "hp"))
  | with_reducible refine rd_u ?_
  | ((with_reducible refine' rd_slL ?rh ?_); (case rh => walk_at "hp"))
  | with_reducible refine rd_for ?_
  | with_reducible refine rd_rng1 ?_
  | with_reducible refine rd_rng2 ?_
  | with_reducible refine rd_ints1 ?_
  | with_reducible refine rd_ints2 ?_
  | with_reducible refine rd_retN ?_)
local macro_rules | `(tactic| walk_at "rd") => `(tactic| repeat walk_at "rd1")
section
variable [KW]
variable {P : Program} {w : World} {K : PySem.W.Frag} {mg : Str → Option Value} {base : Heap}
/-! ### _law_ways -/
structure WI (M : List Addr) (s : Addr) (H : Hp) (n : Nat) (O : Addr) (ord : List Nat) (D : Addr) (H' : Hp) : Prop where
  hD : ∃ ss, H' D = some (.lst (nVl ss)) ∧ ss.length = n ∧ ∀ x ∈ ss, x < 2 ^ n
  hO : H' O = some (.lst (nVl ord))
  str : StrAt (D :: M) H' s
  a : Adv [s] H H'
  nD : H D = none
theorem WI.sD {M : List Addr} {s : Addr} {H : Hp} {n : Nat} {O : Addr} {ord : List Nat} {D : Addr} {H' : Hp} (x : WI M s H n O ord D H') : D ≠ s := by
  obtain ⟨ss, hD, _⟩ := x.hD
  exact str_nl x.str hD
theorem WI.next {M : List Addr} {s : Addr} {H : Hp} {n : Nat} {O : Addr} {ord : List Nat} {D : Addr} {H' H2 : Hp} (x : WI M s H n O ord D H') (a : Adv [s] H' H2) (hs : StrAt (D :: M) H2 s) : WI M s H n O ord D H2 := by
  obtain ⟨ss, hD, h1, h2⟩ := x.hD
  exact ⟨⟨ss, a _ _ (notin1 x.sD) hD, h1, h2⟩, a _ _ (notin1 (str_nl x.str x.hO)) x.hO, hs, x.a.trans a, x.nD⟩
theorem WI.put {M : List Addr} {s : Addr} {H : Hp} {n : Nat} {O : Addr} {ord : List Nat} {D : Addr} {H' : Hp} {ss : List Nat} {v m : Nat} (x : WI M s H n O ord D H') (hs : ss.length = n) (hlt : ∀ x ∈ ss, x < 2 ^ n) (hm : m < 2 ^ n) (hOD : O ≠ D) : WI M s H n O ord D (upd H' D (.lst (nVl (ss.set v m)))) :=
  ⟨⟨_, upd_same, by rw [List.length_set]; exact hs, set_lt hlt hm⟩, by rw [upd_ne hOD]; exact x.hO, x.str.adv (N := [D]) (Adv.set (by simp)) (notin1 x.sD.symm) (by simp), x.a.mut x.nD, x.nD⟩
theorem cut_nat (ord : List Nat) (lo hi : Option Int) : ∃ l, cutV (nVl ord) lo hi = nVl l ∧ l.length ≤ ord.length ∧ ∀ r ∈ l, r ∈ ord := by
  unfold cutV nVl
  refine ⟨_, by rw [← List.map_drop, ← List.map_take], ?_, fun r hr => List.mem_of_mem_drop (List.mem_of_mem_take hr)⟩
  rw [List.length_take, List.length_drop]
  omega
structure WayP (vs : List V) (H : Hp) (Q : VK) : Prop where
  ex : ∃ (M : List Addr) (s : Addr) (x : Str) (n : Nat), vs = [.ref s, .str x, .int (n : Nat)] ∧ StrAt M H s ∧ 1 ≤ n ∧ n ≤ 256 ∧
    ∀ D ss H', H D = none → H' D = some (.lst (nVl ss)) → ss.length = n → (∀ y ∈ ss, y < 2 ^ n) → StrAt (D :: M) H' s → Adv [s] H H' → Q (.ref D) H'
def spWay : Sp := fun vs H Q _ => WayP vs H Q
theorem or_pow {n x v : Nat} (hx : x < 2 ^ n) (hv : v < n) : x ||| 2 ^ v < 2 ^ n := Nat.or_lt_two_pow hx (Nat.pow_lt_pow_right (by decide) hv)
theorem ok_law_ways (A : All K mg w) : FnOk P w K mg base CX0 3 A.law_ways.f A.law_ways.fd ["stream", "logic", "worlds"] spWay := by
  refine A.law_ways.F.ok sc_law_ways (fun vs H Q E h => ?_) (fun cdv Ar outer s H vs Q E hr h => ?_)
  · obtain ⟨M, st, x, n, rfl, _⟩ := h.ex
    rfl
  · obtain ⟨M, st, x, n, rfl, hst, n1, n2, q⟩ := h.ex
    refine ⟨_, (pss_cons (ps_set (i := 3) sc_law_ways.nd rfl (Or.inl rfl) (pe_call (ok_law_shuffled A) (hr.mono (by omega)) rfl A.law_shuffled.m A.law_shuffled.F.kp A.law_shuffled.b .nil pass0 (pa_cons (pv 0) (pa_cons (pe_listRg rfl rfl A.T.list (prg_1 rfl A.T.range (pv 2))) pa_nil))))
  (pss_cons (ps_set (i := 4) sc_law_ways.nd rfl (Or.inr rfl) (pe_op op_rep (pe_lst (pa_cons pe_int pa_nil)) (pv 2)))
  (pss_cut (ps_if (pt_cmpR op_eq (pe_call (ok_law_next A) (hr.mono (by omega)) rfl A.law_next.m A.law_next.F.kp A.law_next.b .nil pass0 (pa_cons (pv 0) (pa_cons pe_int pa_nil))) pe_int (nomark _))
    (pss_one (ps_for PassesOwn.never rfl (pi_range2 rfl A.T.range (pa_cons pe_int (pa_cons (pv 2) pa_nil))) (pg_name (i := 5) sc_law_ways.nd rfl (Or.inl rfl))
    (pss_cut (ps_set (i := 6) sc_law_ways.nd rfl (Or.inl rfl) (pe_ifExp (pt_cmpR op_eq (pe_call (ok_law_next A) (hr.mono (by omega)) rfl A.law_next.m A.law_next.F.kp A.law_next.b .nil pass0 (pa_cons (pv 0) (pa_cons pe_int pa_nil))) pe_int (nomark _)) (pe_ix ix_list (pv 3) (pe_op op_sub (pe_op op_sub (pv 5) pe_int) (pe_call (ok_law_next A) (hr.mono (by omega)) rfl A.law_next.m A.law_next.F.kp A.law_next.b .nil pass0 (pa_cons (pv 0) (pa_cons (pe_callB (call_min2 rfl) (by rfl) A.T.min (by decide +kernel) (pa_cons (pv 5) (pa_cons pe_int pa_nil))) pa_nil)))) (fun _ _ => rfl)) (pe_ix ix_list (pv 3) (pe_call (ok_law_next A) (hr.mono (by omega)) rfl A.law_next.m A.law_next.F.kp A.law_next.b .nil pass0 (pa_cons (pv 0) (pa_cons (pv 5) pa_nil))) (fun _ _ => rfl))))
  (pss_one (ps_asg (pe_op op_or (pe_ix ix_list (pv 4) (pv 6) (fun _ _ => rfl)) (pe_op op_shl pe_int (pe_ix ix_list (pv 3) (pv 5) (fun _ _ => rfl)))) (pg_sub (pv 4) (pv 6) set_list))))))
    (pss_cons (ps_set (i := 7) sc_law_ways.nd rfl (Or.inl rfl) (pe_call (ok_law_from A) (hr.mono (by omega)) rfl A.law_from.m A.law_from.F.kp A.law_from.b .nil pass0 (pa_cons (pv 0) (pa_cons pe_int (pa_cons pe_int pa_nil)))))
  (pss_one (ps_for PassesOwn.never rfl (pi_range1 rfl A.T.range (pa_cons (pv 2) pa_nil)) (pg_name (i := 5) sc_law_ways.nd rfl (Or.inl rfl))
    (pss_one (ps_for PassesOwn.never rfl (pi_list (pe_call (ok_law_some A) (hr.mono (by omega)) rfl A.law_some.m A.law_some.F.kp A.law_some.b .nil pass0 (pa_cons (pv 0) (pa_cons (pe_slice sl_list (pv 3) (po_some (pe_op op_add (pv 5) pe_int)) po_none) (pa_cons (pv 7) pa_nil))))) (pg_name (i := 8) sc_law_ways.nd rfl (Or.inl rfl))
    (pss_one (ps_asg (pe_op op_or (pe_ix ix_list (pv 4) (pe_ix ix_list (pv 3) (pv 5) (fun _ _ => rfl)) (fun _ _ => rfl)) (pe_op op_shl pe_int (pv 8))) (pg_sub (pv 4) (pe_ix ix_list (pv 3) (pv 5) (fun _ _ => rfl)) set_list)))))))))
  (pss_cut (ps_if (pt_cmpR op_ne (pv 1) pe_str (nomark _))
    (pss_one (ps_for PassesOwn.never rfl (pi_range1 rfl A.T.range (pa_cons (pe_call (ok_law_next A) (hr.mono (by omega)) rfl A.law_next.m A.law_next.F.kp A.law_next.b .nil pass0 (pa_cons (pv 0) (pa_cons pe_int pa_nil))) pa_nil)) (pg_name (i := 9) sc_law_ways.nd rfl (Or.inl rfl))
    (pss_cons (ps_set (i := 6) sc_law_ways.nd rfl (Or.inl rfl) (pe_call (ok_law_next A) (hr.mono (by omega)) rfl A.law_next.m A.law_next.F.kp A.law_next.b .nil pass0 (pa_cons (pv 0) (pa_cons (pv 2) pa_nil))))
  (pss_one (ps_asg (pe_op op_or (pe_ix ix_list (pv 4) (pv 6) (fun _ _ => rfl)) (pe_op op_shl pe_int (pe_call (ok_law_next A) (hr.mono (by omega)) rfl A.law_next.m A.law_next.F.kp A.law_next.b .nil pass0 (pa_cons (pv 0) (pa_cons (pv 2) pa_nil))))) (pg_sub (pv 4) (pv 6) set_list))))))
    pss_nil)
  (pss_cut (ps_if (pt_cmpR op_in_seq (pv 1) (pe_tup (pa_cons pe_str (pa_cons pe_str pa_nil))) rfl)
    (pss_one (ps_set (i := 4) sc_law_ways.nd rfl (Or.inr rfl) (pe_lc (own := [("v", 6)]) (g := (gName 6)) rfl sc_law_ways.nd (pi_range1 rfl A.T.range (pa_cons (pv 2) pa_nil)) (blkOk_by (own := [("v", 6)]) (N := ["stream", "logic", "worlds", "order", "sees", "at", "v", "share", "to", "turn"]) (sc := defScope s_law_ways) (by decide +kernel)) (fun _ _ _ _ _ => pg_name (i := 6) sc_law_ways.nd rfl (Or.inl rfl)) (fun _ _ _ _ _ => pts_nil) (fun _ _ _ _ _ => (pe_op op_or (pe_ix (ix_listK K rfl) (pv 4) (pv 6) (fun _ _ => rfl)) (pe_op op_shl pe_int (pv 6)))))))
    pss_nil)
  (pss_one (ps_ret (pe_ifExp (pt_cmpR op_eq (pv 1) pe_str (nomark _)) (pv 4) (pe_call (ok_law_reach A) (hr.mono (by omega)) rfl A.law_reach.m A.law_reach.F.kp A.law_reach.b .nil pass0 (pa_cons (pv 4) pa_nil)))))))))), ?_⟩
    walk_at "rd"
    unfold tLstRg tRg1
    walk_at "rd"
    refine ⟨.of_le (by omega) (by omega) (by omega) (by omega), fun p np => ?_⟩
    rw [rg_nat]
    have ap : Adv [] H (upd H p (.lst (nVl (List.range n)))) := Adv.new np
    walk_at "rd"
    refine ⟨⟨M, st, p, _, rfl, hst.same ap, upd_same, by simp; omega, fun O ord H1 nO hO ol om hs1 a1 => ?_⟩⟩
    rw [List.length_range] at ol
    have om' : ∀ r ∈ ord, r < n := fun r hr => List.mem_range.mp (om r hr)
    have a01 : Adv [st] H H1 := ap.nil.trans a1
    walk_at "rd"
    refine ⟨by show 1 ≤ sizeLine; decide, fun z nz => ?_⟩
    have az : Adv [] H1 (upd H1 z (.lst [.int 0])) := Adv.new nz
    walk_at "rd"
    refine ⟨z, (n : Nat), [.int 0], rfl, rfl, upd_same, by omega, by omega, by rw [sizeLine_eq]; simp; omega, fun D nD => ?_⟩
    rw [Int.toNat_natCast, rep0]
    have aD := az.newT (o := .lst (nVl (List.replicate n 0))) nD
    have nD1 : H1 D = none := az.free (by simp) nD
    have nDs : D ≠ st := fun z => hs1.here (by rw [← z]; exact nD1)
    have nD0 : H D = none := a01.free (notin1 nDs) nD1
    have hOD : O ≠ D := ne_of_none hO nD1
    have W0 : WI M st H n O ord D (upd (upd H1 z (.lst [.int 0])) D (.lst (nVl (List.replicate n 0)))) := ⟨⟨_, upd_same, by simp, fun y hy => by rw [(List.mem_replicate.mp hy).2]; exact Nat.two_pow_pos n⟩, aD.same _ _ hO, (hs1.fresh nD1).same aD, a01.trans aD.nil, nD0⟩
    generalize upd (upd H1 z (.lst [.int 0])) D (.lst (nVl (List.replicate n 0))) = H2 at W0
    have og : ∀ i, i < n → (nVl ord)[i]? = some (.int (sA ord i : Nat)) := fun i hi => nVl_get? (by omega)
    have ob : ∀ i, i < n → sA ord i < n := fun i hi => by
      unfold sA
      rw [List.getD_eq_getElem?_getD, List.getElem?_eq_getElem (by omega)]
      exact om' _ (List.getElem_mem _)
    walk_at "rd"
    refine ⟨fun σ' H' => ∃ y5 y6 y7 y8, σ' = [some (.ref st), some (.str x), some (.int (n : Nat)), some (.ref O), some (.ref D), y5, y6, y7, y8, none] ∧ WI M st H n O ord D H', ?_, ?_⟩
    · walk_at "rd"
      refine ⟨st, 2, D :: M, rfl, W0.str, by decide, by decide, fun d H3 d0 d1 hs3 a3 => ?_⟩
      have W1 := W0.next a3 hs3
      walk_at "rd"
      refine iteB (fun e => ?_) (fun e => ?_)
      · walk_at "rd"
        refine ⟨by omega, ?_⟩
        refine for_range (lo := 1) (n := ((n : Int) - 1).toNat) (fun i σ' H' => ∃ y5 y6, σ' = [some (.ref st), some (.str x), some (.int (n : Nat)), some (.ref O), some (.ref D), y5, y6, none, none, none] ∧ WI M st H n O ord D H')
          ⟨_, _, rfl, W1⟩ ?_ ?_
        · rintro i σ' H4 hi ⟨y5, y6, rfl, W4⟩
          have ei : (1 : Int) + (i : Int) = ((i + 1 : Nat) : Int) := by omega
          rw [ei]
          have hi1 : i + 1 < n := by omega
          walk_at "rd"
          refine ⟨fun σ' H' => ∃ v : Nat, v < n ∧ σ' = [some (.ref st), some (.str x), some (.int (n : Nat)), some (.ref O), some (.ref D), some (.int ((i + 1 : Nat) : Int)), some (.int (v : Nat)), none, none, none] ∧ WI M st H n O ord D H', ?_, ?_⟩
          · walk_at "rd"
            refine ⟨st, 2, D :: M, rfl, W4.str, by decide, by decide, fun d2 H5 e0 e1 hs5 a5 => ?_⟩
            have W5 := W4.next a5 hs5
            walk_at "rd"
            refine iteB (fun e => ?_) (fun e => ?_)
            · walk_at "rd"
              refine ⟨st, (if (3 : Int) < ((i + 1 : Nat) : Int) then 3 else ((i + 1 : Nat) : Int)), D :: M, rfl, W5.str, by split <;> omega, by split <;> omega, fun d3 H6 f0 f1 hs6 a6 => ?_⟩
              have f2 : d3 < ((i + 1 : Nat) : Int) := by split at f1 <;> omega
              have W6 := W5.next a6 hs6
              obtain ⟨j, rfl⟩ : ∃ j : Nat, d3 = (j : Int) := ⟨d3.toNat, by omega⟩
              have ej : ((i + 1 : Nat) : Int) - 1 - (j : Int) = ((i - j : Nat) : Int) := by omega
              walk_at "rd"
              rw [ej]
              refine ⟨O, _, _, _, rfl, rfl, SqL.of W6.hO, atI_nat (og (i - j) (by omega)), ?_⟩
              walk_at "rd"
              exact ⟨_, ob (i - j) (by omega), rfl, W6⟩
            · walk_at "rd"
              refine ⟨st, _, D :: M, rfl, W5.str, by omega, by omega, fun d3 H6 f0 f1 hs6 a6 => ?_⟩
              have W6 := W5.next a6 hs6
              obtain ⟨j, rfl⟩ : ∃ j : Nat, d3 = (j : Int) := ⟨d3.toNat, by omega⟩
              have gj := og j (by omega)
              have bj := ob j (by omega)
              have hO6 := W6.hO
              walk_at "rd"
              exact ⟨_, bj, rfl, W6⟩
          · rintro σ' H6 ⟨v, hv, rfl, W6⟩
            obtain ⟨ss, hD, h1, h2⟩ := W6.hD
            have hO6 := W6.hO
            have g1 := nVl_get? (l := ss) (i := v) (by omega)
            have g2 := og (i + 1) hi1
            have b2 := ob (i + 1) hi1
            walk_at "rd"
            refine rd_shl1 (by omega) (rd_bor ?_)
            walk_at "rd"
            refine ⟨D, _, (v : Nat), v, rfl, rfl, hD, ixN_of (by rw [nVl_ln]; omega), ?_⟩
            walk_at "rd"
            refine ⟨_, _, rfl, ?_⟩
            rw [nVl_set]
            exact W6.put h1 h2 (or_pow (sA_lt h2 v) b2) hOD
        · rintro σ' H5 ⟨y5, y6, rfl, W5⟩
          exact ⟨_, _, _, _, rfl, W5⟩
      · walk_at "rd"
        refine ⟨st, 1, 5, D :: M, rfl, W1.str, by decide, by decide, fun sh H4 sh0 sh1 hs4 a4 => ?_⟩
        have W2 := W1.next a4 hs4
        walk_at "rd"
        refine ⟨by omega, by omega, ?_⟩
        refine for_range (lo := 0) (n := (n : Int).toNat) (fun i σ' H' => ∃ y5 y8, σ' = [some (.ref st), some (.str x), some (.int (n : Nat)), some (.ref O), some (.ref D), y5, none, some (.int sh), y8, none] ∧ WI M st H n O ord D H')
          ⟨_, _, rfl, W2⟩ ?_ ?_
        · rintro i σ' H5 hi ⟨y5, y8, rfl, W5⟩
          have hi1 : i < n := by omega
          have hO5 := W5.hO
          rw [Int.zero_add]
          unfold iList
          walk_at "rd"
          intro p np
          obtain ⟨cl, ec, hcl, hcm⟩ := cut_nat ord (some ((i : Int) + 1)) none
          rw [ec]
          have ap : Adv [] H5 (upd H5 p (.lst (nVl cl))) := Adv.new np
          have W6 := W5.next ap.nil (W5.str.same ap)
          walk_at "rd"
          refine ⟨⟨D :: M, st, p, cl, sh, rfl, W6.str, upd_same, by omega, fun F fr H7 nF hF hsub hs7 a7 => ?_⟩⟩
          have W7 := W6.next a7 hs7
          have FD : F ≠ D := fun z => by
            obtain ⟨ss, hD, _⟩ := W6.hD
            rw [← z, nF] at hD
            cases hD
          refine ⟨F, rfl, ⟨_, SqL.of hF⟩, ?_⟩
          refine for_list (a := F) (xs := nVl fr) (fun k σ' H' => ∃ y8, σ' = [some (.ref st), some (.str x), some (.int (n : Nat)), some (.ref O), some (.ref D), some (.int (i : Nat)), none, some (.int sh), y8, none] ∧ WI M st H n O ord D H' ∧ H' F = some (.lst (nVl fr)))
            ⟨_, rfl, W7, hF⟩ ?_ ?_ ?_
          · rintro k σ' H' hk ⟨y8, rfl, W8, hF8⟩
            exact SqL.of hF8
          · rintro k xv σ' H' hx ⟨y8, rfl, W8, hF8⟩
            obtain ⟨t, ht, rfl⟩ := nVl_gt hx
            have htn : t < n := om' t (hcm t (hsub.subset (List.mem_of_getElem? ht)))
            obtain ⟨ss, hD, h1, h2⟩ := W8.hD
            have hO8 := W8.hO
            have g2 := og i hi1
            have b2 := ob i hi1
            have g1 := nVl_get? (l := ss) (i := sA ord i) (by omega)
            walk_at "rd"
            refine rd_shl1 (by omega) (rd_bor ?_)
            walk_at "rd"
            refine ⟨D, _, (sA ord i : Nat), sA ord i, rfl, rfl, hD, ixN_of (by rw [nVl_ln]; omega), ?_⟩
            walk_at "rd"
            refine ⟨_, rfl, ?_, by rw [upd_ne FD]; exact hF8⟩
            rw [nVl_set]
            exact W8.put h1 h2 (or_pow (sA_lt h2 _) htn) hOD
          · rintro σ' H' ⟨y8, rfl, W8, hF8⟩
            exact ⟨_, _, rfl, W8⟩
        · rintro σ' H5 ⟨y5, y8, rfl, W5⟩
          exact ⟨_, _, _, _, rfl, W5⟩
    rintro σ' H3 ⟨y5, y6, y7, y8, rfl, W3⟩
    walk_at "rd"
    refine ⟨fun σ' H' => ∃ y5 y6 y7 y8 y9, σ' = [some (.ref st), some (.str x), some (.int (n : Nat)), some (.ref O), some (.ref D), y5, y6, y7, y8, y9] ∧ WI M st H n O ord D H', ?_, ?_⟩
    · walk_at "rd"
      refine iteB (fun e => ?_) (fun e => ?_)
      · walk_at "rd"
        refine ⟨st, 3, D :: M, rfl, W3.str, by decide, by decide, fun d H4 d0 d1 hs4 a4 => ?_⟩
        have W4 := W3.next a4 hs4
        walk_at "rd"
        refine ⟨by omega, by omega, ?_⟩
        refine for_range (lo := 0) (n := d.toNat) (fun i σ' H' => ∃ y6 y9, σ' = [some (.ref st), some (.str x), some (.int (n : Nat)), some (.ref O), some (.ref D), y5, y6, y7, y8, y9] ∧ WI M st H n O ord D H')
          ⟨_, _, rfl, W4⟩ ?_ ?_
        · rintro i σ' H5 hi ⟨y6, y9, rfl, W5⟩
          walk_at "rd"
          refine ⟨st, (n : Nat), D :: M, rfl, W5.str, by omega, by omega, fun d3 H6 f0 f1 hs6 a6 => ?_⟩
          have W6 := W5.next a6 hs6
          obtain ⟨v, rfl⟩ : ∃ j : Nat, d3 = (j : Int) := ⟨d3.toNat, by omega⟩
          obtain ⟨ss, hD, h1, h2⟩ := W6.hD
          have g1 := nVl_get? (l := ss) (i := v) (by omega)
          walk_at "rd"
          refine ⟨st, (n : Nat), D :: M, rfl, W6.str, by omega, by omega, fun d4 H7 f2 f3 hs7 a7 => ?_⟩
          have W7 := W6.next a7 hs7
          have hD7 := a7 _ _ (notin1 W6.sD) hD
          obtain ⟨t, rfl⟩ : ∃ j : Nat, d4 = (j : Int) := ⟨d4.toNat, by omega⟩
          walk_at "rd"
          refine rd_shl1 (by omega) (rd_bor ?_)
          walk_at "rd"
          refine ⟨D, _, (v : Nat), v, rfl, rfl, hD7, ixN_of (by rw [nVl_ln]; omega), ?_⟩
          walk_at "rd"
          refine ⟨_, _, rfl, ?_⟩
          rw [nVl_set]
          exact W7.put h1 h2 (or_pow (sA_lt h2 v) (by omega)) hOD
        · rintro σ' H5 ⟨y6, y9, rfl, W5⟩
          exact ⟨_, _, _, _, _, rfl, W5⟩
      · walk_at "rd"
        exact ⟨_, _, _, _, _, rfl, W3⟩
    rintro σ' H4 ⟨y5, y6, y7, y8, y9, rfl, W4⟩
    walk_at "rd"
    refine ⟨fun σ' H' => ∃ D' y5 y6 y7 y8 y9, σ' = [some (.ref st), some (.str x), some (.int (n : Nat)), some (.ref O), some (.ref D'), y5, y6, y7, y8, y9] ∧ WI M st H n O ord D' H', ?_, ?_⟩
    · walk_at "rd"
      refine ⟨by show 2 ≤ sizeLine; decide, fun p np => ?_⟩
      have ap : Adv [] H4 (upd H4 p (.tup [.str "s4", .str "intuit"])) := Adv.new np
      have W5 := W4.next ap.nil (W4.str.same ap)
      refine ⟨p, _, rfl, .inr (SqT.of upd_same), rfl, rfl, ?_⟩
      refine ⟨_, rfl, ?_⟩
      refine iteB (fun e => ?_) (fun e => ?_)
      · walk_at "rd"
        unfold tLc iRng1
        walk_at "rd"
        obtain ⟨ss, hD, h1, h2⟩ := W5.hD
        refine ⟨by omega, by omega, fun D2 nD2 => ?_⟩
        refine lc_mapRl (fun i => V.int (sA ss i ||| 2 ^ i : Nat)) nD2 (by omega) ?_ ?_
        · intro i H' acc R' hi aH hD2 k
          have hD' := aH.same _ _ hD
          have g1 := nVl_get? (l := ss) (i := i) (by omega)
          refine ⟨rfl, ?_⟩
          rw [Int.zero_add]
          walk_at "rd"
          refine rd_shl1 (by omega) (rd_bor ?_)
          exact k H' hD2 aH
        · intro H' aH hD2
          rw [Int.toNat_natCast] at hD2
          have e2 : (List.range n).map (fun i => V.int (sA ss i ||| 2 ^ i : Nat)) = nVl ((List.range n).map fun i => sA ss i ||| 2 ^ i) := by
            unfold nVl
            rw [List.map_map]
            rfl
          rw [e2] at hD2
          walk_at "rd"
          have D2s : D2 ≠ st := fun z => W5.str.here (by rw [← z]; exact nD2)
          refine ⟨D2, _, _, _, _, _, rfl, ⟨⟨_, hD2, by simp, fun y hy => ?_⟩, aH.same _ _ W5.hO, ((W5.str.less (by simp +contextual)).fresh nD2).same aH, W5.a.trans aH.nil, W5.a.free (notin1 D2s) nD2⟩⟩
          obtain ⟨i, hi, rfl⟩ := List.mem_map.mp hy
          exact or_pow (sA_lt h2 i) (List.mem_range.mp hi)
      · walk_at "rd"
        exact ⟨D, _, _, _, _, _, rfl, W5⟩
    rintro σ' H5 ⟨D', y5, y6, y7, y8, y9, rfl, W5⟩
    obtain ⟨ss, hD, h1, h2⟩ := W5.hD
    walk_at "rd"
    refine iteB (fun e => ?_) (fun e => ?_)
    · walk_at "rd"
      exact q D' ss H5 W5.nD hD h1 h2 W5.str W5.a
    · walk_at "rd"
      refine ⟨⟨D', ss, rfl, hD, by omega, by rw [h1]; exact h2, fun D2 ss' H6 nD2 hD2 h3 h4 a6 => ?_⟩⟩
      have D2s : D2 ≠ st := fun z => W5.str.here (by rw [← z]; exact nD2)
      exact q D2 ss' H6 (W5.a.free (notin1 D2s) nD2) hD2 (by omega) (by rw [← h1]; exact h4) (((W5.str.less (N := M) (by simp +contextual)).fresh nD2).same a6) (W5.a.trans a6.nil)
/-! ### _law_arcs_of -/
structure AofP (vs : List V) (H : Hp) (Q : VK) : Prop where
  ex : ∃ (M : List Addr) (s : Addr) (n : Nat), vs = [.ref s, .int (n : Nat)] ∧ StrAt M H s ∧ 1 ≤ n ∧ n ≤ 256 ∧
    ∀ D ss H', H D = none → H' D = some (.lst (nVl ss)) → ss.length = n → (∀ y ∈ ss, y < 2 ^ n) → StrAt (D :: M) H' s → Adv [s] H H' → Q (.ref D) H'
def spAof : Sp := fun vs H Q _ => AofP vs H Q
theorem ok_law_arcs_of (A : All K mg w) : FnOk P w K mg base CX0 4 A.law_arcs_of.f A.law_arcs_of.fd ["stream", "worlds"] spAof := by
  refine A.law_arcs_of.F.ok sc_law_arcs_of (fun vs H Q E h => ?_) (fun cdv Ar outer s H vs Q E hr h => ?_)
  · obtain ⟨M, st, n, rfl, _⟩ := h.ex
    rfl
  · obtain ⟨M, st, n, rfl, hst, n1, n2, q⟩ := h.ex
    refine ⟨_, (pss_cons (ps_set (i := 2) sc_law_arcs_of.nd rfl (Or.inl rfl) (pe_call (ok_law_next A) (hr.mono (by omega)) rfl A.law_next.m A.law_next.F.kp A.law_next.b .nil pass0 (pa_cons (pv 0) (pa_cons pe_int pa_nil))))
  (pss_cons (ps_if (pt_cmpR op_eq (pv 2) pe_int (nomark _))
    (pss_cons (ps_set (i := 3) sc_law_arcs_of.nd rfl (Or.inr rfl) (pe_call (ok_law_from A) (hr.mono (by omega)) rfl A.law_from.m A.law_from.F.kp A.law_from.b .nil pass0 (pa_cons (pv 0) (pa_cons pe_int (pa_cons pe_int pa_nil)))))
  (pss_one (ps_ret (pe_lc (own := [("v", 4)]) (g := (gName 4)) rfl sc_law_arcs_of.nd (pi_range1 rfl A.T.range (pa_cons (pv 1) pa_nil)) (blkOk_by (own := [("v", 4)]) (N := ["stream", "worlds", "kind", "share", "v", "sees"]) (sc := defScope s_law_arcs_of) (by decide +kernel)) (fun _ _ _ _ _ => pg_name (i := 4) sc_law_arcs_of.nd rfl (Or.inl rfl)) (fun _ _ _ _ _ => pts_nil) (fun _ _ _ _ _ => (pe_call (ok_law_bits A) (hr.mono (by omega)) rfl A.law_bits.m A.law_bits.F.kp A.law_bits.b .nil pass0 (pa_cons (pe_call (ok_law_some A) (hr.mono (by omega)) rfl A.law_some.m A.law_some.F.kp A.law_some.b .nil pass0 (pa_cons (pv 0) (pa_cons (pe_listRg rfl rfl A.T.list (prg_1 rfl A.T.range (pv 1))) (pa_cons (pv 3) pa_nil)))) pa_nil)))))))
    pss_nil)
  (pss_cons (ps_set (i := 5) sc_law_arcs_of.nd rfl (Or.inl rfl) (pe_call (ok_law_ways A) (hr.mono (by omega)) rfl A.law_ways.m A.law_ways.F.kp A.law_ways.b .nil pass0 (pa_cons (pv 0) (pa_cons (pe_call (ok_law_pick A) (hr.mono (by omega)) rfl A.law_pick.m A.law_pick.F.kp A.law_pick.b .nil pass0 (pa_cons (pv 0) (pa_cons (pe_tup (pa_cons pe_str (pa_cons pe_str (pa_cons pe_str pa_nil)))) pa_nil))) (pa_cons (pv 1) pa_nil)))))
  (pss_cons (ps_if (pt_cmpR op_gt (pv 2) pe_int (nomark _))
    (pss_cons (ps_set (i := 4) sc_law_arcs_of.nd rfl (Or.inl rfl) (pe_call (ok_law_next A) (hr.mono (by omega)) rfl A.law_next.m A.law_next.F.kp A.law_next.b .nil pass0 (pa_cons (pv 0) (pa_cons (pv 1) pa_nil))))
  (pss_one (ps_asg (pe_op op_xor (pe_ix ix_list (pv 5) (pv 4) (fun _ _ => rfl)) (pe_op op_shl pe_int (pe_call (ok_law_next A) (hr.mono (by omega)) rfl A.law_next.m A.law_next.F.kp A.law_next.b .nil pass0 (pa_cons (pv 0) (pa_cons (pv 1) pa_nil))))) (pg_sub (pv 5) (pv 4) set_list))))
    pss_nil)
  (pss_one (ps_ret (pv 5))))))), ?_⟩
    walk_at "rd"
    refine ⟨st, 4, M, rfl, hst, by decide, by decide, fun kd H1 k0 k1 hs1 a1 => ?_⟩
    walk_at "rd"
    refine iteB (fun e => ?_) (fun e => ?_)
    · walk_at "rd"
      refine ⟨st, 1, 6, M, rfl, hs1, by decide, by decide, fun sh H2 s0 s1 hs2 a2 => ?_⟩
      walk_at "rd"
      unfold tLc iRng1
      walk_at "rd"
      refine ⟨by omega, by omega, fun D nD => ?_⟩
      have nDs : D ≠ st := fun z => hs2.here (by rw [← z]; exact nD)
      have nD0 : H D = none := (a1.trans a2).free (notin1 nDs) nD
      have aD : Adv [] H2 (upd H2 D (.lst [])) := Adv.new nD
      refine lc_range (lo := 0) (n := (n : Int).toNat) (tt := tYes) (fun i H' => ∃ ms, H' D = some (.lst (nVl ms)) ∧ ms.length = i ∧ (∀ y ∈ ms, y < 2 ^ n) ∧ StrAt (D :: M) H' st ∧ Adv [st] H H') ⟨[], upd_same, rfl, by simp, (hs2.fresh nD).same aD, (a1.trans a2).trans aD.nil⟩ (fun i H' hi p => ?_) (fun H' p => ?_)
      · obtain ⟨ms, hD, ml, mlt, hs3, a3⟩ := p
        refine ⟨rfl, ?_⟩
        unfold tYes
        refine iteY rfl ?_
        walk_at "rd"
        unfold tLstRg tRg1
        walk_at "rd"
        refine ⟨.of_le (by omega) (by omega) (by omega) (by omega), fun p np => ?_⟩
        rw [rg_nat]
        have ap : Adv [] H' (upd H' p (.lst (nVl (List.range n)))) := Adv.new np
        walk_at "rd"
        refine ⟨⟨D :: M, st, p, _, sh, rfl, hs3.same ap, upd_same, by simp; omega, fun F rows H4 nF hF hsub hs4 a4 => ?_⟩⟩
        have hlt : ∀ r ∈ rows, r < n := fun r hr => List.mem_range.mp (hsub.subset hr)
        walk_at "rd"
        refine ⟨F, rows, rfl, hF, fun r hr => by have := hlt r hr; omega, ?_⟩
        have hD4 := a4 _ _ (notin1 nDs) (ap.same _ _ hD)
        refine ⟨_, hD4, by rw [nVl_ln, sizeLine_eq]; omega, ms ++ [bitsN rows], ?_, by rw [List.length_append, ml]; rfl, fun y hy => ?_, hs4.adv (N := [D]) (Adv.set (by simp)) (notin1 nDs.symm) (by simp), ((a3.trans ap.nil).trans a4).mut nD0⟩
        · rw [upd_same]
          unfold nVl
          rw [List.map_append]
          rfl
        · rcases List.mem_append.mp hy with hy | hy
          · exact mlt y hy
          · rw [List.mem_singleton.mp hy]
            exact bitsN_lt hlt
      · obtain ⟨ms, hD, ml, mlt, hs3, a3⟩ := p
        exact q D ms H' nD0 hD (by omega) mlt hs3 a3
    · walk_at "rd"
      refine ⟨by show 3 ≤ sizeLine; decide, fun p np => ?_⟩
      have ap : Adv [] H1 (upd H1 p (.tup [.str "s4", .str "gl", .str "intuit"])) := Adv.new np
      walk_at "rd"
      refine ⟨st, p, [.str "s4", .str "gl", .str "intuit"], M, rfl, hs1.same ap, .inr upd_same, fun z => hs1.here (by rw [← z]; exact np), by simp, by simp, fun x H2 hx hs2 a2 => ?_⟩
      have a02 : Adv [st] H H2 := (a1.trans ap.nil).trans a2
      obtain ⟨z, rfl⟩ : ∃ z, x = .str z := by
        simp at hx
        rcases hx with h | h | h <;> exact ⟨_, h⟩
      walk_at "rd"
      refine ⟨⟨M, st, z, n, rfl, hs2, n1, n2, fun D ss H3 nD hD h1 h2 hs3 a3 => ?_⟩⟩
      have nDs : D ≠ st := fun z => hs2.here (by rw [← z]; exact nD)
      have nD0 : H D = none := a02.free (notin1 nDs) nD
      have a03 := a02.trans a3
      walk_at "rd"
      refine iteB (fun e => ?_) (fun e => ?_)
      · walk_at "rd"
        refine ⟨st, (n : Nat), D :: M, rfl, hs3, by omega, by omega, fun d3 H6 f0 f1 hs6 a6 => ?_⟩
        obtain ⟨v, rfl⟩ : ∃ j : Nat, d3 = (j : Int) := ⟨d3.toNat, by omega⟩
        have hD6 := a6 _ _ (notin1 nDs) hD
        have g1 := nVl_get? (l := ss) (i := v) (by omega)
        walk_at "rd"
        refine ⟨st, (n : Nat), D :: M, rfl, hs6, by omega, by omega, fun d4 H7 f2 f3 hs7 a7 => ?_⟩
        have hD7 := a7 _ _ (notin1 nDs) hD6
        obtain ⟨t, rfl⟩ : ∃ j : Nat, d4 = (j : Int) := ⟨d4.toNat, by omega⟩
        walk_at "rd"
        refine rd_shl1 (by omega) ?_
        walk_at "rd"
        rw [bxor]
        refine ⟨D, _, (v : Nat), v, rfl, rfl, hD7, ixN_of (by rw [nVl_ln]; omega), ?_⟩
        walk_at "rd"
        rw [nVl_set]
        exact q D _ _ nD0 upd_same (by rw [List.length_set]; exact h1) (set_lt h2 (Nat.xor_lt_two_pow (sA_lt h2 v) (Nat.pow_lt_pow_right (by decide) (by omega)))) (hs7.adv (N := [D]) (Adv.set (by simp)) (notin1 nDs.symm) (by simp)) (((a03.trans a6).trans a7).mut nD0)
      · walk_at "rd"
        exact q D ss H3 nD0 hD h1 h2 hs3 a03
end
end K10

set_option Elab.async false
set_option linter.all false
set_option maxRecDepth 100000
set_option maxHeartbeats 400000
namespace K10
open PySem PySem.Spec PyProof.Rows L2 LL
open C8 (pss_cut)
local macro_rules | `(tactic| walk_at "ne") => `(tactic| first | assumption | (apply Ne.symm; assumption) | exact ne_of_none (by walk_at "hp") (by assumption) | exact (ne_of_none (by walk_at "hp") (by assumption)).symm)
local macro_rules | `(tactic| walk_at "nm") => `(tactic| first | assumption | exact notin0 | exact notin1 (by walk_at "ne") | exact notin2 (by walk_at "ne") (by walk_at "ne"))
local macro_rules | `(tactic| walk_at "hp") => `(tactic| first | assumption | exact upd_same | (refine Eq.trans (upd_ne ?ne) ?hh; (case hh => walk_at "hp"); (case ne => walk_at "ne")) | (refine Adv.get' (by assumption) ?hh ?nn; (case hh => walk_at "hp"); (case nn => walk_at "nm")))
local macro_rules | `(tactic| walk_at "tp") => `(tactic| first | assumption | exact Tp.adv (by walk_at "tp") (by assumption) | exact Tp.adv (by walk_at "tp") (Adv.nil (by assumption)))
local macro_rules | `(tactic| walk_at "sq") => `(tactic| first | assumption | exact Tp.sq (by assumption) (by walk_at "tp") | exact SqT.of (by walk_at "hp"))
local macro_rules | `(tactic| walk_at "at") => `(tactic| first | exact atI_nat (j := 0) rfl | exact atI_nat (j := 1) rfl | exact atI_nat (j := 2) rfl | exact atI_nat (j := 3) rfl | exact atI_nat (by assumption) | (rw [Int.zero_add]; exact atI_nat (by assumption)))
local macro_rules | `(tactic| walk_at "bb") => `(tactic| first | assumption | decide | exact rfl)
local macro_rules | `(tactic| walk_at "ci") => `(tactic| first | omega | (dsimp only; omega) | (unfold CDiv; omega) | (unfold CMul; omega))
local macro_rules | `(tactic| walk_at "rd1") => `(tactic| first
  | with_reducible refine rd_c ?_
  | ((with_reducible refine' rd_var ?rh ?_); (case rh => exact rfl))
  | with_reducible refine rd_op ?_
  | with_reducible refine rd_seq ?_
  | with_reducible refine rd_asg ?_
  | with_reducible refine rd_gname ?_
  | with_reducible refine rd_ifS ?_
  | with_reducible refine rd_test ?_
  | with_reducible refine rd_tB ?_
  | with_reducible refine rd_blP ?_
  | ((with_reducible refine' iteY ?rh ?_); (case rh => walk_at "bb"))
  | ((with_reducible refine' iteN ?rh ?_); (case rh => walk_at "bb"))
  | with_reducible refine rd_ret ?_
  | with_reducible refine rd_nx ?_
  | ((with_reducible refine' rd_eq ?rh ?_); (case rh => exact rfl))
  | ((with_reducible refine' rd_ne ?rh ?_); (case rh => exact rfl))
  | with_reducible refine rd_add ?_
  | with_reducible refine rd_sub ?_
  | with_reducible refine rd_i0 ?_
  | with_reducible refine rd_and ?_
  | with_reducible refine rd_or ?_
  | with_reducible refine rd_not ?_
  | with_reducible refine rd_andV ?_
  | with_reducible refine rd_orV ?_
  | with_reducible refine rd_notV ?_
  | with_reducible refine rd_ifE ?_
  | with_reducible refine rd_isN ?_
  | with_reducible refine rd_notN ?_
  | with_reducible refine rd_cons ?_
  | with_reducible refine rd_nil ?_
  | with_reducible refine rd_tup ?_
  | with_reducible refine rd_lst ?_
  | with_reducible refine rd_call ?_
  | with_reducible refine rd_cb ?_
  | with_reducible refine rd_meth ?_
  | with_reducible refine rd_callS ?_
  | with_reducible refine rd_make ?_
  | with_reducible refine rd_rfl ?_
  | with_reducible refine rd_fld ?_
  | with_reducible refine rd_drop ?_
  | with_reducible refine rd_gsub ?_
  | with_reducible refine rd_gcons ?_
  | with_reducible refine rd_gnil ?_
  | with_reducible refine rd_par ?_
  | with_reducible refine rd_two ?_
  | with_reducible refine rd_par3 ?_
  | with_reducible refine rd_three ?_
  | with_reducible refine rd_int1 ?_
  | ((with_reducible refine' rd_i ?rh ?_); (case rh => walk_at "ci"))
  | with_reducible refine rd_part ?_
  | with_reducible refine rd_nopart ?_
  | with_reducible refine rd_int ?_
  | with_reducible refine rd_sl ?_
  | with_reducible refine rd_bm ?_
  | with_reducible refine rd_bm0 ?_
  | with_reducible refine rd_dgetT ?_
  | with_reducible refine rd_din ?_
  | with_reducible refine rd_dnin ?_
  | with_reducible refine rd_un ?_
  | ((with_reducible refine' rd_ixL ?rh ?re ?_); (case rh => walk_at "hp"); (case re => walk_at "at"))
  | ((with_reducible refine' rd_ixT ?rh ?re ?_); (case rh => walk_at "sq"); (case re => walk_at "at"))
  | ((with_reducible refine' rd_lenT ?rh ?_); (case rh => walk_at "sq"))
  | ((with_reducible refine' rd_tyL ?rh ?_); (case rh => walk_at "hp"))
  | ((with_reducible refine' rd_len ?rh ?_); (case rh => walk_at "hp"))
  | with_reducible refine rd_u ?_
  | ((with_reducible refine' rd_slL ?rh ?_); (case rh => walk_at "hp"))
  | with_reducible refine rd_for ?_
  | with_reducible refine rd_rng1 ?_
  | with_reducible refine rd_rng2 ?_
  | with_reducible refine rd_ints1 ?_
  | with_reducible refine rd_ints2 ?_
  | with_reducible refine rd_retN ?_)
local macro_rules | `(tactic| walk_at "rd") => `(tactic| repeat walk_at "rd1")
section
variable [KW]
variable {P : Program} {w : World} {K : PySem.W.Frag} {mg : Str → Option Value} {base : Heap}
/-! ### _law_refuters -/
def oV : Option Nat → V
  | some k => .int (k : Nat)
  | none => .non
def gD (g : Nat × Nat × Nat) : PyData := .tuple [.int (g.1 : Nat), .int (g.2.1 : Nat), .int (g.2.2 : Nat)]
def gapV (ss : List Nat) (u v : Nat) : List (Nat × Nat × Nat) := ((bitsL ss.length (sA ss v)).filter fun w => !(sA ss u).testBit w).map fun w => (u, v, w)
def gapU (ss : List Nat) (u : Nat) (l : List Nat) : List (Nat × Nat × Nat) := l.flatMap fun v => gapV ss u v
def gapI (ss : List Nat) (i : Nat) : List (Nat × Nat × Nat) := (List.range i).flatMap fun u => gapU ss u (bitsL ss.length (sA ss u))
theorem fm_len {α β : Type} {f : α → List β} {B : Nat} (h : ∀ x, (f x).length ≤ B) : ∀ l : List α, (l.flatMap f).length ≤ l.length * B
  | [] => by simp
  | a :: l => by
    have := fm_len h l
    have := h a
    rw [List.flatMap_cons, List.length_append, List.length_cons, Nat.add_mul]
    omega
theorem gapV_len (ss : List Nat) (u v : Nat) : (gapV ss u v).length ≤ ss.length := by
  unfold gapV
  rw [List.length_map]
  exact Nat.le_trans (List.length_filter_le _ _) (bitsL_len _ _)
theorem gapU_len (ss : List Nat) (u : Nat) (l : List Nat) (h : l.length ≤ ss.length) : (gapU ss u l).length ≤ ss.length * ss.length :=
  Nat.le_trans (fm_len (gapV_len ss u) l) (Nat.mul_le_mul_right _ h)
theorem gapI_len (ss : List Nat) (i : Nat) (h : i ≤ ss.length) : (gapI ss i).length ≤ ss.length * (ss.length * ss.length) := by
  refine Nat.le_trans (fm_len (fun u => gapU_len ss u _ (bitsL_len _ _)) _) ?_
  rw [List.length_range]
  exact Nat.mul_le_mul_right _ h
theorem gapI_all (ss : List Nat) : gapI ss ss.length = gapsF ss := rfl
theorem gap_at {M : List Addr} {H : Hp} {u v w : Nat} {r : List (Nat × Nat × Nat)} {gs : List V} (x : IsDs M H (((u, v, w) :: r).map gD) gs) : ∃ t, gs[0]? = some (.ref t) ∧ Tp M H t [.int (u : Nat), .int (v : Nat), .int (w : Nat)] := by
  obtain ⟨y, hy, hi⟩ := x.get (i := 0) (d := gD (u, v, w)) rfl
  obtain ⟨t, us, rfl, ht, hs⟩ := hi.tupE
  obtain ⟨u1, u2, u3, rfl, h1, h2, h3⟩ := three_at hs
  cases h1.intE
  cases h2.intE
  cases h3.intE
  exact ⟨t, hy, ht⟩
structure RefP (vs : List V) (H : Hp) (Q : VK) : Prop where
  ex : ∃ (l : Addr) (ss : List Nat), vs = [.ref l] ∧ H l = some (.lst (nVl ss)) ∧ 1 ≤ ss.length ∧ ss.length ≤ 40 ∧ (∀ x ∈ ss, x < 2 ^ ss.length) ∧ ∀ p H', H p = none → H' p = some (.tup [oV (refT ss), oV (ref4 ss), oV (refL ss)]) → Adv [] H H' → Q (.ref p) H'
def spRef : Sp := fun vs H Q _ => RefP vs H Q
theorem ok_law_refuters (A : All K mg w) : FnOk P w K mg base CX0 2 A.law_refuters.f A.law_refuters.fd ["sees"] spRef := by
  refine A.law_refuters.F.ok sc_law_refuters (fun vs H Q E h => ?_) (fun cdv Ar outer s H vs Q E hr h => ?_)
  · obtain ⟨l, ss, rfl, _⟩ := h.ex
    rfl
  · obtain ⟨l, ss, rfl, hl, n1, n2, hlt, q⟩ := h.ex
    refine ⟨_, (pss_cons (ps_set (i := 1) sc_law_refuters.nd rfl (Or.inl rfl) (pe_callB call_len_seq (by rfl) A.T.len PySem.boot_len (pa_cons (pv 0) pa_nil)))
  (pss_cons (ps_set (i := 2) sc_law_refuters.nd rfl (Or.inl rfl) (pe_op op_sub (pe_op op_shl pe_int (pv 1)) pe_int))
  (pss_cons (ps_setLc (i := 4) (own := [("v", 3)]) (g := (gName 3)) rfl sc_law_refuters.nd rfl rfl (sw_true rfl rfl rfl (by decide +kernel)) (pi_range1 rfl A.T.range (pa_cons (pv 1) pa_nil)) (blkOk_by (own := [("v", 3)]) (N := ["sees", "worlds", "every", "v", "away", "loops", "gaps", "u", "reflexive", "four", "lob", "w"]) (sc := defScope s_law_refuters) (by decide +kernel)) (fun _ _ _ _ _ => pg_name (i := 3) sc_law_refuters.nd rfl (Or.inl rfl)) (fun _ _ _ _ _ => pts_one (pt_cmpR op_eq (pe_op op_and (pe_ix (ix_listK K rfl) (pv 0) (pv 3) (fun _ _ => rfl)) (pe_op op_shl pe_int (pv 3))) pe_int (nomark _))) (fun _ _ _ _ _ => (pv 3)))
  (pss_cons (ps_setLc (i := 5) (own := [("v", 3)]) (g := (gName 3)) rfl sc_law_refuters.nd rfl rfl (sw_true rfl rfl rfl (by decide +kernel)) (pi_range1 rfl A.T.range (pa_cons (pv 1) pa_nil)) (blkOk_by (own := [("v", 3)]) (N := ["sees", "worlds", "every", "v", "away", "loops", "gaps", "u", "reflexive", "four", "lob", "w"]) (sc := defScope s_law_refuters) (by decide +kernel)) (fun _ _ _ _ _ => pg_name (i := 3) sc_law_refuters.nd rfl (Or.inl rfl)) (fun _ _ _ _ _ => pts_one (pt_cmpR op_ne (pe_op op_and (pe_ix (ix_listK K rfl) (pv 0) (pv 3) (fun _ _ => rfl)) (pe_op op_shl pe_int (pv 3))) pe_int (nomark _))) (fun _ _ _ _ _ => (pv 3)))
  (pss_cons (ps_set (i := 6) sc_law_refuters.nd rfl (Or.inl rfl) (pe_lst pa_nil))
  (pss_cons (ps_for PassesOwn.never rfl (pi_range1 rfl A.T.range (pa_cons (pv 1) pa_nil)) (pg_name (i := 7) sc_law_refuters.nd rfl (Or.inr rfl))
    (pss_one (ps_for PassesOwn.never rfl (pi_list (pe_call (ok_law_listed A) (hr.mono (by omega)) rfl A.law_listed.m A.law_listed.F.kp A.law_listed.b .nil pass0 (pa_cons (pe_ix ix_list (pv 0) (pv 7) (fun _ _ => rfl)) (pa_cons (pv 1) pa_nil)))) (pg_name (i := 3) sc_law_refuters.nd rfl (Or.inr rfl))
    (pss_one (ps_expr (pe_bm PySem.F.plainAttrs_list PySem.F.slot_list_extend PySem.F.type_list_extend mt_extend (pv 6) (pa_cons (pe_lc (own := [("w", 11)]) (g := (gName 11)) rfl sc_law_refuters.nd (pi_list (pe_call (ok_law_listed A) (hr.mono (by omega)) rfl A.law_listed.m A.law_listed.F.kp A.law_listed.b .nil pass0 (pa_cons (pe_ix ix_list (pv 0) (pv 3) (fun _ _ => rfl)) (pa_cons (pv 1) pa_nil)))) (blkOk_by (own := [("w", 11)]) (N := ["sees", "worlds", "every", "v", "away", "loops", "gaps", "u", "reflexive", "four", "lob", "w"]) (sc := defScope s_law_refuters) (by decide +kernel)) (fun _ _ _ _ _ => pg_name (i := 11) sc_law_refuters.nd rfl (Or.inl rfl)) (fun _ _ _ _ _ => pts_one (pt_cmpR op_eq (pe_op op_and (pe_ix (ix_listK K rfl) (pv 0) (pv 7) (fun _ _ => rfl)) (pe_op op_shl pe_int (pv 11))) pe_int (nomark _))) (fun _ _ _ _ _ => (pe_tup (pa_cons (pv 7) (pa_cons (pv 3) (pa_cons (pv 11) pa_nil)))))) pa_nil)))))))
  (pss_cut (ps_set (i := 8) sc_law_refuters.nd rfl (Or.inl rfl) (pe_ifExp (pt_cmpR op_gt (pe_callB call_len_seq (by rfl) A.T.len PySem.boot_len (pa_cons (pv 4) pa_nil)) pe_int (nomark _)) (pe_op op_xor (pv 2) (pe_op op_shl pe_int (pe_ix ix_list (pv 4) pe_int (fun _ _ => rfl)))) pe_non))
  (pss_cut (ps_set (i := 9) sc_law_refuters.nd rfl (Or.inl rfl) (pe_ifExp (pt_cmpR op_gt (pe_callB call_len_seq (by rfl) A.T.len PySem.boot_len (pa_cons (pv 6) pa_nil)) pe_int (nomark _)) (pe_ix ix_list (pv 0) (pe_ix ix_tup (pe_ix ix_list (pv 6) pe_int (fun _ _ => rfl)) pe_int (fun _ _ => rfl)) (fun _ _ => rfl)) pe_non))
  (pss_cut (ps_set (i := 10) sc_law_refuters.nd rfl (Or.inl rfl) (pe_ifExp (pt_cmpR op_gt (pe_callB call_len_seq (by rfl) A.T.len PySem.boot_len (pa_cons (pv 5) pa_nil)) pe_int (nomark _)) (pe_op op_xor (pv 2) (pe_op op_shl pe_int (pe_ix ix_list (pv 5) pe_int (fun _ _ => rfl)))) pe_non))
  (pss_cut (ps_if (PW.pt (pw_and (pt_cmpR op_gt (pe_callB call_len_seq (by rfl) A.T.len PySem.boot_len (pa_cons (pv 6) pa_nil)) pe_int (nomark _)) (pw_and1 (pt_cmpR op_isN (pv 10) pe_non (nomark _)))))
    (pss_one (ps_set (i := 10) sc_law_refuters.nd rfl (Or.inl rfl) (pe_op op_xor (pv 2) (pe_op op_or (pe_op op_shl pe_int (pe_ix ix_tup (pe_ix ix_list (pv 6) pe_int (fun _ _ => rfl)) pe_int (fun _ _ => rfl))) (pe_op op_shl pe_int (pe_ix ix_tup (pe_ix ix_list (pv 6) pe_int (fun _ _ => rfl)) pe_int (fun _ _ => rfl)))))))
    pss_nil)
  (pss_one (ps_ret (pe_tup (pa_cons (pv 8) (pa_cons (pv 9) (pa_cons (pv 10) pa_nil)))))))))))))))), ?_⟩
    walk_at "rd"
    rw [nVl_ln]
    refine rd_shl1 (by omega) ?_
    walk_at "rd"
    rw [every_int]
    unfold tLc iRng1
    walk_at "rd"
    refine ⟨by omega, by omega, fun D1 nD1 => ?_⟩
    refine lc_filtRl (lo := 0) (n := ((ss.length : Nat) : Int).toNat) (fun i => V.int (0 + ((i : Nat) : Int))) (fun v => !(sA ss v).testBit v) nD1 (by omega) ?_ ?_
    · intro i H' acc R' R0 hi aH hD2 k k0
      have hD' := aH.same _ _ hl
      have hi2 : i < ss.length := by omega
      have e1 := nVl_get? (l := ss) hi2
      refine ⟨rfl, ?_⟩
      walk_at "rd"
      rw [Int.zero_add] at k ⊢
      refine rd_shl1 (by omega) (rd_band ?_)
      walk_at "rd"
      rw [and_pow]
      refine iteB (fun e => ?_) (fun e => ?_)
      · exact ⟨_, rfl, k e H' hD2 aH⟩
      · exact k0 e H' hD2 aH
    intro H1 a1 hA
    rw [Int.toNat_natCast, ofI] at hA
    have hA : H1 D1 = some (.lst (nVl (awayL ss))) := hA
    have hl1 := a1.same _ _ hl
    walk_at "rd"
    refine ⟨by omega, by omega, fun D2 nD2 => ?_⟩
    refine lc_filtRl (lo := 0) (n := ((ss.length : Nat) : Int).toNat) (fun i => V.int (0 + ((i : Nat) : Int))) (fun v => (sA ss v).testBit v) nD2 (by omega) ?_ ?_
    · intro i H' acc R' R0 hi aH hD2 k k0
      have hD' := aH.same _ _ hl1
      have hi2 : i < ss.length := by omega
      have e1 := nVl_get? (l := ss) hi2
      refine ⟨rfl, ?_⟩
      walk_at "rd"
      rw [Int.zero_add] at k ⊢
      refine rd_shl1 (by omega) (rd_band ?_)
      walk_at "rd"
      rw [and_pow, Bool.not_not]
      refine iteB (fun e => ?_) (fun e => ?_)
      · exact ⟨_, rfl, k e H' hD2 aH⟩
      · exact k0 e H' hD2 aH
    intro H2 a2 hL
    rw [Int.toNat_natCast, ofI] at hL
    have hL : H2 D2 = some (.lst (nVl (loopsL ss))) := hL
    have hl2 := a2.same _ _ hl1
    have hA2 := a2.same _ _ hA
    walk_at "rd"
    refine ⟨Nat.zero_le _, fun g ng => ?_⟩
    have ag : Adv [] H2 (upd H2 g (.lst [])) := Adv.new ng
    have a02 := a1.trans a2
    have ng0 : H g = none := a02.free (by simp) ng
    have lg : l ≠ g := ne_of_none hl2 ng
    walk_at "rd"
    refine ⟨by omega, by omega, ?_⟩
    refine for_range (lo := 0) (n := (ss.length : Int).toNat) (fun i σ' H' => ∃ gs y3 y7, σ' = [some (.ref l), some (.int (ss.length : Nat)), some (.int (every ss.length : Nat)), y3, some (.ref D1), some (.ref D2), some (.ref g), y7, none, none, none, none] ∧ H' g = some (.lst gs) ∧ IsDs [g] H' ((gapI ss i).map gD) gs ∧ Adv [g] H2 H')
      ⟨[], _, _, rfl, upd_same, IsDs.nil, ag.nil⟩ ?_ ?_
    · rintro i σ' H3 hi ⟨gs, y3, y7, rfl, hg, hgs, a3⟩
      have hl3 := a3 _ _ (notin1 lg) hl2
      have e1 := nVl_get? (l := ss) (i := i) (by omega)
      have bl := bitsL_len ss.length (sA ss i)
      rw [Int.zero_add]
      walk_at "rd"
      unfold iList
      walk_at "rd"
      refine ⟨sA ss i, ss.length, rfl, by omega, fun B H4 nB hB a4 => ?_⟩
      have hg4 := a4.same _ _ hg
      have Bg : B ≠ g := fun z => by rw [z, hg] at nB; cases nB
      refine ⟨B, rfl, ⟨_, SqL.of hB⟩, ?_⟩
      refine for_list (a := B) (xs := nVl (bitsL ss.length (sA ss i))) (fun j σ' H' => ∃ gs y3, σ' = [some (.ref l), some (.int (ss.length : Nat)), some (.int (every ss.length : Nat)), y3, some (.ref D1), some (.ref D2), some (.ref g), some (.int (i : Nat)), none, none, none, none] ∧ H' g = some (.lst gs) ∧ IsDs [g] H' ((gapI ss i ++ gapU ss i ((bitsL ss.length (sA ss i)).take j)).map gD) gs ∧ Adv [g] H2 H' ∧ H' B = some (.lst (nVl (bitsL ss.length (sA ss i)))))
        ⟨gs, _, rfl, hg4, by rw [List.take_zero]; simpa [gapU] using hgs.adv a4.nil, a3.trans a4.nil, hB⟩ ?_ ?_ ?_
      · rintro j σ' H' hj ⟨gs, y3, rfl, _, _, _, hB⟩
        exact SqL.of hB
      · rintro j xv σ' H' hx ⟨gs, y3, rfl, hg, hgs, a3, hB⟩
        obtain ⟨v, hv, rfl⟩ := nVl_gt hx
        have hvn := (bitsL_mem.mp (List.mem_of_getElem? hv)).1
        have hl3 := a3 _ _ (notin1 lg) hl2
        have e2 := nVl_get? (l := ss) (i := v) hvn
        walk_at "rd"
        refine ⟨sA ss v, ss.length, rfl, by omega, fun F H5 nF hF a5 => ?_⟩
        have hg5 := a5.same _ _ hg
        have hl5 := a5.same _ _ hl3
        have gF : g ≠ F := ne_of_none hg nF
        have bl2 := bitsL_len ss.length (sA ss v)
        have cub : ss.length * (ss.length * ss.length) ≤ 40 * (40 * 40) := Nat.mul_le_mul n2 (Nat.mul_le_mul n2 n2)
        have sqb : ss.length * ss.length ≤ 40 * 40 := Nat.mul_le_mul n2 n2
        have gil := gapI_len ss i (by omega)
        have gul := gapU_len ss i ((bitsL ss.length (sA ss i)).take j) (by rw [List.length_take]; omega)
        have gsl := hgs.len
        rw [List.length_map, List.length_append] at gsl
        refine ⟨F, rfl, ⟨_, SqL.of hF⟩, fun D3 nD3 => ?_⟩
        have gD3 : g ≠ D3 := ne_of_none hg5 nD3
        refine lc_list (K := K) (a := F) (xs := nVl (bitsL ss.length (sA ss v))) (fun k H' => Adv [] H5 H' ∧ ∃ ys, H' D3 = some (.lst ys) ∧ IsDs [D3, g] H' ((((bitsL ss.length (sA ss v)).take k).filter fun w => !(sA ss i).testBit w).map fun w => gD (i, v, w)) ys)
          ⟨Adv.new nD3, [], upd_same, IsDs.nil⟩ (fun k H' _ p => SqL.of (p.1.same _ _ hF)) (fun k xv H' hx p => ?_) (fun H' p => ?_)
        · obtain ⟨a6, ys, hys, hyd⟩ := p
          obtain ⟨w, hw, rfl⟩ := nVl_gt hx
          have hwn := (bitsL_mem.mp (List.mem_of_getElem? hw)).1
          have hl6 := a6.same _ _ hl5
          have hyl := hyd.len
          rw [List.length_map] at hyl
          have hyl2 := List.length_filter_le (fun w => !(sA ss i).testBit w) ((bitsL ss.length (sA ss v)).take k)
          rw [List.length_take] at hyl2
          have et : ((bitsL ss.length (sA ss v)).take (k + 1)).filter (fun w => !(sA ss i).testBit w) = ((bitsL ss.length (sA ss v)).take k).filter (fun w => !(sA ss i).testBit w) ++ (if (!(sA ss i).testBit w) = true then [w] else []) := by
            rw [take_snc hw, List.filter_append, List.filter_cons]
            rfl
          refine ⟨rfl, ?_⟩
          walk_at "rd"
          refine rd_shl1 (by omega) (rd_band ?_)
          walk_at "rd"
          rw [and_pow]
          refine iteB (fun e => ?_) (fun e => ?_)
          · rw [if_pos e] at et
            walk_at "rd"
            refine ⟨by show 3 ≤ sizeLine; decide, fun t nt => ?_⟩
            have at_ : Adv [] H' (upd H' t (.tup [.int (i : Nat), .int (v : Nat), .int (w : Nat)])) := Adv.new nt
            have nDt : t ≠ D3 := fun z => by rw [z, hys] at nt; cases nt
            have nft : t ≠ g := fun z => by rw [z, a6.same _ _ hg5] at nt; cases nt
            refine ⟨ys, at_.same _ _ hys, by rw [sizeLine_eq]; omega, (a6.trans at_).mut nD3, _, upd_same, ?_⟩
            rw [et, List.map_append]
            have st : Adv [D3, g] (upd H' t (.tup [.int (i : Nat), .int (v : Nat), .int (w : Nat)])) (upd (upd H' t (.tup [.int (i : Nat), .int (v : Nat), .int (w : Nat)])) D3 (.lst (ys ++ [.ref t]))) := Adv.set (by simp)
            have it : Is [D3, g] (upd H' t (.tup [.int (i : Nat), .int (v : Nat), .int (w : Nat)])) (gD (i, v, w)) (.ref t) := Is.tup upd_same (by simp [nDt, nft]) (.cons Is.int (.cons Is.int (IsDs.one Is.int)))
            exact ((hyd.adv (at_.more (by simp))).adv st).app (IsDs.one (it.adv st))
          · rw [if_neg (by rw [e]; decide), List.append_nil] at et
            exact ⟨a6, ys, hys, by rw [et]; exact hyd⟩
        · obtain ⟨a6, ys, hys, hyd⟩ := p
          rw [nVl_ln, List.take_length] at hyd
          have hyd : IsDs [D3, g] H' ((gapV ss i v).map gD) ys := by
            unfold gapV
            rw [List.map_map]
            exact hyd
          have hyl := hyd.len
          rw [List.length_map] at hyl
          have gvl := gapV_len ss i v
          walk_at "rd"
          refine ⟨g, D3, gs, ys, rfl, rfl, a6.same _ _ hg5, hys, by rw [sizeLine_eq]; omega, ?_⟩
          walk_at "rd"
          have st : Adv [g] H' (upd H' g (.lst (gs ++ ys))) := Adv.set (by simp)
          have hBg : B ≠ g := Bg
          refine ⟨gs ++ ys, _, rfl, upd_same, ?_, ((a3.trans a5.nil).trans a6.nil).trans st, by rw [upd_ne hBg]; exact a6.same _ _ (a5.same _ _ hB)⟩
          have e : gapU ss i ((bitsL ss.length (sA ss i)).take (j + 1)) = gapU ss i ((bitsL ss.length (sA ss i)).take j) ++ gapV ss i v := by
            unfold gapU
            rw [take_snc hv, List.flatMap_append]
            simp
          rw [e, ← List.append_assoc, List.map_append]
          exact ((hgs.adv ((a5.trans a6).more (by simp))).adv st).app ((hyd.less (by simp)).adv st)
      · rintro σ' H' ⟨gs, y3, rfl, hg, hgs, a3, hB⟩
        rw [nVl_ln, List.take_length] at hgs
        refine ⟨gs, _, _, rfl, hg, ?_, a3⟩
        have e : gapI ss (i + 1) = gapI ss i ++ gapU ss i (bitsL ss.length (sA ss i)) := by
          unfold gapI
          rw [List.range_succ, List.flatMap_append]
          simp
        rw [e]
        exact hgs
    · rintro σ' H3 ⟨gs, y3, y7, rfl, hg, hgs, a3⟩
      rw [Int.toNat_natCast, gapI_all] at hgs
      have D1g : D1 ≠ g := ne_of_none hA2 ng
      have D2g : D2 ≠ g := ne_of_none hL ng
      have hA3 := a3 _ _ (notin1 D1g) hA2
      have hL3 := a3 _ _ (notin1 D2g) hL
      have hl3 := a3 _ _ (notin1 lg) hl2
      have a03 : Adv [] H H3 := fun b o hb e => a3 _ _ (notin1 (ne_of_none (a02 _ _ hb e) ng)) (a02 _ _ hb e)
      have aw : ∀ v ∈ awayL ss, v < ss.length := fun v hv => List.mem_range.mp (List.mem_filter.mp hv).1
      have lw : ∀ v ∈ loopsL ss, v < ss.length := fun v hv => List.mem_range.mp (List.mem_filter.mp hv).1
      have gsl := hgs.len
      rw [List.length_map] at gsl
      walk_at "rd"
      refine ⟨fun σ' H' => H3 = H' ∧ σ' = [some (.ref l), some (.int (ss.length : Nat)), some (.int (every ss.length : Nat)), y3, some (.ref D1), some (.ref D2), some (.ref g), y7, some (oV (refT ss)), none, none, none], ?_, ?_⟩
      · walk_at "rd"
        unfold refT
        cases eA : awayL ss with
        | nil =>
          refine iteN rfl ?_
          walk_at "rd"
          first | exact ⟨rfl, rfl⟩ | exact rfl
        | cons v r =>
          have hv := aw v (by rw [eA]; simp)
          rw [eA] at hA3
          refine iteY (by first | rfl | simp [nVl_ln]) ?_
          walk_at "rd"
          show rI CPow _ (V.int 1) (V.int ((v : Nat) : Int)) H3 _
          refine rd_shl1 (by omega) ?_
          walk_at "rd"
          rw [bxor]
          first | exact ⟨rfl, rfl⟩ | exact rfl
      rintro σ' H' ⟨e9, rfl⟩
      subst e9
      walk_at "rd"
      refine ⟨fun σ' H' => H3 = H' ∧ σ' = [some (.ref l), some (.int (ss.length : Nat)), some (.int (every ss.length : Nat)), y3, some (.ref D1), some (.ref D2), some (.ref g), y7, some (oV (refT ss)), some (oV (ref4 ss)), none, none], ?_, ?_⟩
      · walk_at "rd"
        unfold ref4
        cases eG : gapsF ss with
        | nil =>
          rw [eG] at gsl
          have e0 : gs = [] := List.length_eq_zero_iff.mp gsl
          subst e0
          refine iteN rfl ?_
          walk_at "rd"
          first | exact ⟨rfl, rfl⟩ | exact rfl
        | cons x r =>
          obtain ⟨u, v, w⟩ := x
          have hx := gaps_mem.mp (show (u, v, w) ∈ gapsF ss by rw [eG]; simp)
          rw [eG] at hgs gsl
          obtain ⟨t, ht, htp⟩ := gap_at hgs
          have sqt := htp.sq A.W
          have g1 := nVl_get? (l := ss) hx.1
          refine iteY (by simp [gsl]) ?_
          walk_at "rd"
          first | exact ⟨rfl, rfl⟩ | exact rfl
      rintro σ' H' ⟨e9, rfl⟩
      subst e9
      walk_at "rd"
      refine ⟨fun σ' H' => H3 = H' ∧ σ' = [some (.ref l), some (.int (ss.length : Nat)), some (.int (every ss.length : Nat)), y3, some (.ref D1), some (.ref D2), some (.ref g), y7, some (oV (refT ss)), some (oV (ref4 ss)), some (oV ((loopsL ss).head?.map fun v => every ss.length ^^^ 2 ^ v)), none], ?_, ?_⟩
      · walk_at "rd"
        cases eA : loopsL ss with
        | nil =>
          rw [eA] at hL3
          refine iteN rfl ?_
          walk_at "rd"
          first | exact ⟨rfl, rfl⟩ | exact rfl
        | cons v r =>
          have hv := lw v (by rw [eA]; simp)
          rw [eA] at hL3
          refine iteY (by first | rfl | simp [nVl_ln]) ?_
          walk_at "rd"
          show rI CPow _ (V.int 1) (V.int ((v : Nat) : Int)) H3 _
          refine rd_shl1 (by omega) ?_
          walk_at "rd"
          rw [bxor]
          first | exact ⟨rfl, rfl⟩ | exact rfl
      rintro σ' H' ⟨e9, rfl⟩
      subst e9
      walk_at "rd"
      refine ⟨fun σ' H' => H3 = H' ∧ σ' = [some (.ref l), some (.int (ss.length : Nat)), some (.int (every ss.length : Nat)), y3, some (.ref D1), some (.ref D2), some (.ref g), y7, some (oV (refT ss)), some (oV (ref4 ss)), some (oV (refL ss)), none], ?_, ?_⟩
      · walk_at "rd"
        unfold refL
        cases eA : loopsL ss with
        | cons x r =>
          by_cases c : decide ((0 : Int) < ((gs.length : Nat) : Int)) = true
          · refine iteY c ?_
            walk_at "rd"
            first | exact ⟨rfl, rfl⟩ | exact rfl
          · refine iteN (by simpa using c) ?_
            walk_at "rd"
            first | exact ⟨rfl, rfl⟩ | exact rfl
        | nil =>
          cases eG : gapsF ss with
          | nil =>
            rw [eG] at gsl
            have e0 : gs = [] := List.length_eq_zero_iff.mp gsl
            subst e0
            refine iteN rfl ?_
            walk_at "rd"
            first | exact ⟨rfl, rfl⟩ | exact rfl
          | cons x r =>
            obtain ⟨u, v, w⟩ := x
            have hx := gaps_mem.mp (show (u, v, w) ∈ gapsF ss by rw [eG]; simp)
            rw [eG] at hgs gsl
            obtain ⟨t, ht, htp⟩ := gap_at hgs
            have sqt := htp.sq A.W
            refine iteY (by simp [gsl]) ?_
            walk_at "rd"
            refine rd_shl1 (by omega) ?_
            walk_at "rd"
            refine rd_shl1 (by omega) (rd_bor ?_)
            walk_at "rd"
            rw [bxor]
            first | exact ⟨rfl, rfl⟩ | exact rfl
      rintro σ' H' ⟨e9, rfl⟩
      subst e9
      walk_at "rd"
      refine ⟨by show 3 ≤ sizeLine; decide, fun p np => ?_⟩
      exact q p _ (a03.free (by simp) np) upd_same (a03.newT np)
end
end K10

set_option Elab.async false
set_option linter.all false
set_option maxRecDepth 100000
set_option maxHeartbeats 400000
namespace K10
open PySem PySem.Spec PyProof.Rows L2 LL
open C8 (pss_cut)
local macro_rules | `(tactic| walk_at "ne") => `(tactic| first | assumption | (apply Ne.symm; assumption) | exact ne_of_none (by walk_at "hp") (by assumption) | exact (ne_of_none (by walk_at "hp") (by assumption)).symm)
local macro_rules | `(tactic| walk_at "nm") => `(tactic| first | assumption | exact notin0 | exact notin1 (by walk_at "ne") | exact notin2 (by walk_at "ne") (by walk_at "ne"))
local macro_rules | `(tactic| walk_at "hp") => `(tactic| first | assumption | exact upd_same | (refine Eq.trans (upd_ne ?ne) ?hh; (case hh => walk_at "hp"); (case ne => walk_at "ne")) | (refine Adv.get' (by assumption) ?hh ?nn; (case hh => walk_at "hp"); (case nn => walk_at "nm")))
local macro_rules | `(tactic| walk_at "tp") => `(tactic| first | assumption | exact Tp.adv (by walk_at "tp") (by assumption) | exact Tp.adv (by walk_at "tp") (Adv.nil (by assumption)))
local macro_rules | `(tactic| walk_at "sq") => `(tactic| first | assumption | exact Tp.sq (by assumption) (by walk_at "tp") | exact SqT.of (by walk_at "hp"))
local macro_rules | `(tactic| walk_at "at") => `(tactic| first | exact atI_nat (j := 0) rfl | exact atI_nat (j := 1) rfl | exact atI_nat (j := 2) rfl | exact atI_nat (j := 3) rfl | exact atI_nat (by assumption) | (rw [Int.zero_add]; exact atI_nat (by assumption)))
local macro_rules | `(tactic| walk_at "bb") => `(tactic| first | assumption | decide | exact rfl)
local macro_rules | `(tactic| walk_at "ci") => `(tactic| first | omega | (dsimp only; omega) | (unfold CDiv; omega) | (unfold CMul; omega))
local macro_rules | `(tactic| walk_at "rd1") => `(tactic| first
  | with_reducible refine rd_c ?_
  | ((with_reducible refine' rd_var ?rh ?_); (case rh => exact rfl))
  | with_reducible refine rd_op ?_
  | with_reducible refine rd_seq ?_
  | with_reducible refine rd_asg ?_
  | with_reducible refine rd_gname ?_
  | with_reducible refine rd_ifS ?_
  | with_reducible refine rd_test ?_
  | with_reducible refine rd_tB ?_
  | with_reducible refine rd_blP ?_
  | ((with_reducible refine' iteY ?rh ?_); (case rh => walk_at "bb"))
  | ((with_reducible refine' iteN ?rh ?_); (case rh => walk_at "bb"))
  | with_reducible refine rd_ret ?_
  | with_reducible refine rd_nx ?_
  | ((with_reducible refine' rd_eq ?rh ?_); (case rh => exact rfl))
  | ((with_reducible refine' rd_ne ?rh ?_); (case rh => exact rfl))
  | with_reducible refine rd_add ?_
  | with_reducible refine rd_sub ?_
  | with_reducible refine rd_i0 ?_
  | with_reducible refine rd_and ?_
  | with_reducible refine rd_or ?_
  | with_reducible refine rd_not ?_
  | with_reducible refine rd_andV ?_
  | with_reducible refine rd_orV ?_
  | with_reducible refine rd_notV ?_
  | with_reducible refine rd_ifE ?_
  | with_reducible refine rd_isN ?_
  | with_reducible refine rd_notN ?_
  | with_reducible refine rd_cons ?_
  | with_reducible refine rd_nil ?_
  | with_reducible refine rd_tup ?_
  | with_reducible refine rd_lst ?_
  | with_reducible refine rd_call ?_
  | with_reducible refine rd_cb ?_
  | with_reducible refine rd_meth ?_
  | with_reducible refine rd_callS ?_
  | with_reducible refine rd_make ?_
  | with_reducible refine rd_rfl ?_
  | with_reducible refine rd_fld ?_
  | with_reducible refine rd_drop ?_
  | with_reducible refine rd_gsub ?_
  | with_reducible refine rd_gcons ?_
  | with_reducible refine rd_gnil ?_
  | with_reducible refine rd_par ?_
  | with_reducible refine rd_two ?_
  | with_reducible refine rd_par3 ?_
  | with_reducible refine rd_three ?_
  | with_reducible refine rd_int1 ?_
  | ((with_reducible refine' rd_i ?rh ?_); (case rh => walk_at "ci"))
  | with_reducible refine rd_part ?_
  | with_reducible refine rd_nopart ?_
  | with_reducible refine rd_int ?_
  | with_reducible refine rd_sl ?_
  | with_reducible refine rd_bm ?_
  | with_reducible refine rd_bm0 ?_
  | with_reducible refine rd_dgetT ?_
  | with_reducible refine rd_din ?_
  | with_reducible refine rd_dnin ?_
  | with_reducible refine rd_un ?_
  | ((with_reducible refine' rd_ixL ?rh ?re ?_); (case rh => walk_at "hp"); (case re => walk_at "at"))
  | ((with_reducible refine' rd_ixT ?rh ?re ?_); (case rh => walk_at "sq"); (case re => walk_at "at"))
  | ((with_reducible refine' rd_lenT ?rh ?_); (case rh => walk_at "sq"))
  | ((with_reducible refine' rd_tyL ?rh ?_); (case rh => walk_at "hp"))
  | ((with_reducible refine' rd_len ?rh ?_); (case rh => walk_at "hp"))
  | with_reducible refine rd_u ?_
  | ((with_reducible refine' rd_slL ?rh ?_); (case rh => walk_at "hp"))
  | with_reducible refine rd_for ?_
  | with_reducible refine rd_rng1 ?_
  | with_reducible refine rd_rng2 ?_
  | with_reducible refine rd_ints1 ?_
  | with_reducible refine rd_ints2 ?_
  | with_reducible refine rd_retN ?_)
local macro_rules | `(tactic| walk_at "rd") => `(tactic| repeat walk_at "rd1")
section
variable [KW]
variable {P : Program} {w : World} {K : PySem.W.Frag} {mg : Str → Option Value} {base : Heap}
/-! ### _law_is_modal -/
theorem oV_none (r : Option Nat) : decide (oV r = V.non) = r.isNone := by cases r <;> rfl
theorem right_s4 {ss : List Nat} {L : Nat → Nat} : rightB "s4" ss L = propB "s4" ss := by
  unfold rightB
  rw [decide_eq_false (by decide)]
  simp
theorem right_gl {ss : List Nat} {L : Nat → Nat} : rightB "gl" ss L = propB "gl" ss := by
  unfold rightB
  rw [decide_eq_false (by decide)]
  simp
theorem sch_okn {i : Nat} (hi : i < 8) : ∀ (j : Nat) (n : Nd), (schN i)[j]? = some n → n.ok true j = true := fun j n h => by
  unfold schN at h
  match j, h with
  | 0, h => cases h; simp [Nd.ok]; omega
  | 1, h => cases h; simp [Nd.ok]; unfold otherI; split <;> omega
  | 2, h => cases h; simp [Nd.ok]
  | 3, h => cases h; simp [Nd.ok]
  | 4, h => cases h; simp [Nd.ok]
  | 5, h => cases h; simp [Nd.ok]
  | 6, h => cases h; simp [Nd.ok]
  | 7, h => cases h; simp [Nd.ok]
  | 8, h => cases h; simp [Nd.ok]
  | 9, h => cases h; simp [Nd.ok]
  | 10, h => cases h; simp [Nd.ok]
  | 11, h => cases h; simp [Nd.ok]
  | 12, h => cases h; simp [Nd.ok]
  | 13, h => cases h; simp [Nd.ok]
  | k + 14, h => simp at h
theorem word_k {ss : List Nat} {L : Nat → Nat} : wordF "k" ss L = none := by
  have e : propB "k" ss = true := by
    unfold propB
    rw [if_neg (by decide), if_pos rfl]
  unfold wordF
  rw [e, if_neg (by decide), decide_eq_false (by decide)]
  rfl
def f2 (i p o m : Nat) : Nat → Option Nat := fun j => if j = o then some m else if j = i then some p else none
theorem merge2 (i p o m : Nat) (j : Nat) : valV (mergeK [] [(Sum.inl ((i : Nat) : Int), V.int (p : Nat)), (Sum.inl ((o : Nat) : Int), V.int (m : Nat))]) (Sum.inl ((j : Nat) : Int) : Key) = (f2 i p o m j).map fun k => V.int (k : Nat) := by
  show valV (putK (putK [] (Sum.inl ((i : Nat) : Int)) (V.int (p : Nat))) (Sum.inl ((o : Nat) : Int)) (V.int (m : Nat))) (Sum.inl ((j : Nat) : Int)) = _
  have ej : ∀ a b : Nat, ((Sum.inl ((a : Nat) : Int) : Key) = Sum.inl ((b : Nat) : Int)) ↔ a = b := fun a b => by
    constructor
    · intro h
      injection h with h
      omega
    · rintro rfl
      rfl
  rw [valV_put, valV_put]
  unfold f2
  by_cases h1 : j = o
  · rw [if_pos ((ej j o).mpr h1), if_pos h1]; rfl
  · rw [if_neg (fun z => h1 ((ej j o).mp z)), if_neg h1]
    by_cases h2 : j = i
    · rw [if_pos ((ej j i).mpr h2), if_pos h2]; rfl
    · rw [if_neg (fun z => h2 ((ej j i).mp z)), if_neg h2]; rfl
theorem bits_dn {M : List Addr} {st : Addr} {n : Nat} {sh : Int} {σ : L2.St} {H : Hp} {R : VK} (h0 : σ[0]? = some (some (.ref st))) (h2 : σ[2]? = some (some (.int (n : Nat)))) (hs : StrAt M H st) (hn : n ≤ 256) (q : ∀ (m : Nat) (H' : Hp), m < 2 ^ n → StrAt M H' st → Adv [st] H H' → R (.int (m : Nat)) H') :
    tCall spBitsL [] E0 (tCons (tCall spSome [] E0 (tCons (tVar 0) (tCons (tLstRg (tRg1 (tVar 2))) (tCons (tC (V.int sh)) tNil)))) tNil) σ H R := by
  walk_at "rd"
  refine ⟨_, h0, ?_⟩
  unfold tLstRg tRg1
  walk_at "rd"
  refine ⟨_, h2, ?_⟩
  walk_at "rd"
  refine ⟨.of_le (by omega) (by omega) (by omega) (by omega), fun p np => ?_⟩
  rw [rg_nat]
  have ap : Adv [] H (upd H p (.lst (nVl (List.range n)))) := Adv.new np
  walk_at "rd"
  refine ⟨⟨M, st, p, _, sh, rfl, hs.same ap, upd_same, by simp; omega, fun F rows H4 nF hF hsub hs4 a4 => ?_⟩⟩
  have hlt : ∀ r ∈ rows, r < n := fun r hr => List.mem_range.mp (hsub.subset hr)
  walk_at "rd"
  refine ⟨F, rows, rfl, hF, fun r hr => by have := hlt r hr; omega, ?_⟩
  exact q _ H4 (bitsN_lt hlt) hs4 (ap.nil.trans a4)
theorem sz_bl (b : Bool) : sz (.bool b) ≤ 1000000 := by cases b <;> simp [sz]
theorem eqv3 (a b c : Bool) : PyData.eqv (.list [.bool a, .bool b, .bool c]) (.list [.bool a, .bool b, .bool c]) = true := by cases a <;> cases b <;> cases c <;> decide +kernel
theorem shp3 (a b c : Bool) : SeqAt.shaped (.list [.bool a, .bool b, .bool c]) = true := by cases a <;> cases b <;> cases c <;> decide +kernel
theorem eqv2 (a b : Bool) : PyData.eqv (.list [.bool a, .bool b]) (.list [.bool a, .bool b]) = true := by cases a <;> cases b <;> decide +kernel
theorem shp2 (a b : Bool) : SeqAt.shaped (.list [.bool a, .bool b]) = true := by cases a <;> cases b <;> decide +kernel
theorem dp3 {H : Hp} {x : Addr} {a b c : Bool} (h : H x = some (.lst [.bl a, .bl b, .bl c])) : Dp K H (.ref x) (.list [.bool a, .bool b, .bool c]) := .lst (SqL.of h) (.cons (.bl _) (.cons (.bl _) (.cons (.bl _) .nil)))
theorem dp2 {H : Hp} {x : Addr} {a b : Bool} (h : H x = some (.lst [.bl a, .bl b])) : Dp K H (.ref x) (.list [.bool a, .bool b]) := .lst (SqL.of h) (.cons (.bl _) (.cons (.bl _) .nil))
theorem ix_and {σ : L2.St} {H : Hp} {aw : Addr} {xs : List V} {c d : Bool} {Qq : VK} (h : σ[11]? = some (some (.ref aw))) (haw : H aw = some (.lst xs)) (e : xs[1]? = some (.bl d)) (qq : Qq (.bl (c && d)) H) : if c = true then tOp (rIxL K) (tVar 11) (tC (V.int 1)) σ H Qq else Qq (.bl false) H := by
  cases c with
  | false => exact iteN rfl qq
  | true => exact iteY rfl ⟨_, h, aw, xs, 1, _, rfl, rfl, SqL.of haw, atI_nat (j := 1) e, qq⟩
structure ModP (vs : List V) (H : Hp) (Q : VK) : Prop where
  ex : ∃ (M : List Addr) (s l : Addr) (ss : List Nat), vs = [.ref s, .ref l] ∧ StrAt M H s ∧ H l = some (.lst (nVl ss)) ∧ 1 ≤ ss.length ∧ ss.length ≤ 40 ∧ (∀ x ∈ ss, x < 2 ^ ss.length) ∧ ∀ H', StrAt M H' s → Adv [s] H H' → Q (.bl true) H'
def spMod : Sp := fun vs H Q _ => ModP vs H Q
theorem ok_law_is_modal (A : All K mg w) (Z : Exs K mg) (Z1 : Er_BadModel Z) : FnOk P w K mg base CX0 14 A.law_is_modal.f A.law_is_modal.fd ["stream", "sees"] spMod := by
  refine A.law_is_modal.F.ok sc_law_is_modal (fun vs H Q E h => ?_) (fun cdv Ar outer s H vs Q E hr h => ?_)
  · obtain ⟨M, st, l, ss, rfl, _⟩ := h.ex
    rfl
  · obtain ⟨M, st, l, ss, rfl, hst, hl, n1, n2, hlt, q⟩ := h.ex
    refine ⟨_, (pss_cons (ps_set (i := 2) sc_law_is_modal.nd rfl (Or.inr rfl) (pe_callB call_len_seq (by rfl) A.T.len PySem.boot_len (pa_cons (pv 1) pa_nil)))
  (pss_cons (ps_set (i := 3) sc_law_is_modal.nd rfl (Or.inl rfl) (pe_call (ok_law_next A) (hr.mono (by omega)) rfl A.law_next.m A.law_next.F.kp A.law_next.b .nil pass0 (pa_cons (pv 0) (pa_cons pe_int pa_nil))))
  (pss_cons (ps_asg (pe_call (ok_law_schemes A) (hr.mono (by omega)) rfl A.law_schemes.m A.law_schemes.F.kp A.law_schemes.b .nil pass0 (pa_cons (pv 3) pa_nil)) (pg_tup rfl (pgs_cons (pg_name (i := 4) sc_law_is_modal.nd rfl (Or.inl rfl)) (pgs_cons (pg_name (i := 5) sc_law_is_modal.nd rfl (Or.inl rfl)) pgs_nil))))
  (pss_cons (ps_set (i := 6) sc_law_is_modal.nd rfl (Or.inl rfl) (pe_call (ok_law_with A) (hr.mono (by omega)) rfl A.law_with.m A.law_with.F.kp A.law_with.b .nil pass0 (pa_cons (pv 1) (pa_cons pe_dnewK pa_nil))))
  (pss_cons (ps_set (i := 7) sc_law_is_modal.nd rfl (Or.inl rfl) (pe_lst (pa_cons (pe_call (ok_law_is_right_model A) (hr.mono (by omega)) rfl A.law_is_right_model.m A.law_is_right_model.F.kp A.law_is_right_model.b .nil pass0 (pa_cons pe_str (pa_cons (pv 6) pa_nil))) (pa_cons (pe_call (ok_law_is_right_model A) (hr.mono (by omega)) rfl A.law_is_right_model.m A.law_is_right_model.F.kp A.law_is_right_model.b .nil pass0 (pa_cons pe_str (pa_cons (pv 6) pa_nil))) pa_nil))))
  (pss_cons (ps_set (i := 8) sc_law_is_modal.nd rfl (Or.inl rfl) (pe_call (ok_law_refuters A) (hr.mono (by omega)) rfl A.law_refuters.m A.law_refuters.F.kp A.law_refuters.b .nil pass0 (pa_cons (pv 1) pa_nil)))
  (pss_cut (ps_set (i := 10) sc_law_is_modal.nd rfl (Or.inl rfl) (pe_ifExp (pt_cmpR op_lt (pv 2) pe_int (nomark _)) (pe_listRg rfl rfl A.T.list (prg_1 rfl A.T.range (pe_op op_shl pe_int (pv 2)))) (pe_op op_cat (pe_lc (own := [("bits", 9)]) (g := (gName 9)) rfl sc_law_is_modal.nd (pi_tup (pv 8)) (blkOk_by (own := [("bits", 9)]) (N := ["stream", "sees", "worlds", "i", "sheet", "rows", "model", "due", "refuters", "bits", "places", "always", "other", "held", "k"]) (sc := defScope s_law_is_modal) (by decide +kernel)) (fun _ _ _ _ _ => pg_name (i := 9) sc_law_is_modal.nd rfl (Or.inl rfl)) (fun _ _ _ _ _ => pts_one (pt_cmpR op_notN (pv 9) pe_non (nomark _))) (fun _ _ _ _ _ => (pv 9))) (pe_lc (own := [("k", 14)]) (g := (gName 14)) rfl sc_law_is_modal.nd (pi_range1 rfl A.T.range (pa_cons pe_int pa_nil)) (blkOk_by (own := [("k", 14)]) (N := ["stream", "sees", "worlds", "i", "sheet", "rows", "model", "due", "refuters", "bits", "places", "always", "other", "held", "k"]) (sc := defScope s_law_is_modal) (by decide +kernel)) (fun _ _ _ _ _ => pg_name (i := 14) sc_law_is_modal.nd rfl (Or.inl rfl)) (fun _ _ _ _ _ => pts_nil) (fun _ _ _ _ _ => (pe_call (ok_law_bits A) (hr.mono (by omega)) rfl A.law_bits.m A.law_bits.F.kp A.law_bits.b .nil pass0 (pa_cons (pe_call (ok_law_some A) (hr.mono (by omega)) rfl A.law_some.m A.law_some.F.kp A.law_some.b .nil pass0 (pa_cons (pv 0) (pa_cons (pe_listRg rfl rfl A.T.list (prg_1 rfl A.T.range (pv 2))) (pa_cons pe_int pa_nil)))) pa_nil)))))))
  (pss_cons (ps_set (i := 11) sc_law_is_modal.nd rfl (Or.inr rfl) (pe_op op_rep (pe_lst (pa_cons pe_bl pa_nil)) pe_int))
  (pss_cons (ps_for PassesOwn.never rfl (pi_list (pv 10)) (pg_name (i := 9) sc_law_is_modal.nd rfl (Or.inl rfl))
    (pss_cons (ps_set (i := 12) sc_law_is_modal.nd rfl (Or.inl rfl) (pe_ifExp (pt_cmpR op_eq (pv 3) pe_int (nomark _)) pe_int pe_int))
  (pss_cons (ps_set (i := 13) sc_law_is_modal.nd rfl (Or.inr rfl) (pe_call (ok_law_hold A Z Z1) (hr.mono (by omega)) rfl A.law_hold.m A.law_hold.F.kp A.law_hold.b .nil pass0 (pa_cons pe_str (pa_cons (pe_call (ok_law_with A) (hr.mono (by omega)) rfl A.law_with.m A.law_with.F.kp A.law_with.b .nil pass0 (pa_cons (pv 1) (pa_cons (pe_disp (pps_cons (pv 3) (pv 9) (pps_cons (pv 12) (pe_call (ok_law_bits A) (hr.mono (by omega)) rfl A.law_bits.m A.law_bits.F.kp A.law_bits.b .nil pass0 (pa_cons (pe_call (ok_law_some A) (hr.mono (by omega)) rfl A.law_some.m A.law_some.F.kp A.law_some.b .nil pass0 (pa_cons (pv 0) (pa_cons (pe_listRg rfl rfl A.T.list (prg_1 rfl A.T.range (pv 2))) (pa_cons pe_int pa_nil)))) pa_nil)) pps_nil)) (by rfl) (by rfl) (fun z => by cases z) (by decide)) pa_nil))) (pa_cons (pe_callTy call_list_of (by rfl) A.T.list (by decide +kernel) (pa_cons (pv 4) pa_nil)) (pa_cons (pv 5) pa_nil))))))
  (pss_cons (ps_if (pt_not (pt_val (pe_ix ix_list (pv 13) pe_int (fun _ _ => rfl))))
    (pss_one (ps_ret pe_bl))
    pss_nil)
  (pss_one (ps_set (i := 11) sc_law_is_modal.nd rfl (Or.inr rfl) (pe_lc (own := [("k", 14)]) (g := (gName 14)) rfl sc_law_is_modal.nd (pi_range1 rfl A.T.range (pa_cons pe_int pa_nil)) (blkOk_by (own := [("k", 14)]) (N := ["stream", "sees", "worlds", "i", "sheet", "rows", "model", "due", "refuters", "bits", "places", "always", "other", "held", "k"]) (sc := defScope s_law_is_modal) (by decide +kernel)) (fun _ _ _ _ _ => pg_name (i := 14) sc_law_is_modal.nd rfl (Or.inl rfl)) (fun _ _ _ _ _ => pts_nil) (fun _ _ _ _ _ => (pe_and (pe_ix (ix_listK K rfl) (pv 11) (pv 14) (fun _ _ => rfl)) (pe_one (pe_ix (ix_listK K rfl) (pv 13) (pv 14) (fun _ _ => rfl))))))))))))
  (pss_cons (ps_if (pt_cmpR (op_neD hr.units) (pv 11) (pe_lc (own := [("bits", 9)]) (g := (gName 9)) rfl sc_law_is_modal.nd (pi_tup (pv 8)) (blkOk_by (own := [("bits", 9)]) (N := ["stream", "sees", "worlds", "i", "sheet", "rows", "model", "due", "refuters", "bits", "places", "always", "other", "held", "k"]) (sc := defScope s_law_is_modal) (by decide +kernel)) (fun _ _ _ _ _ => pg_name (i := 9) sc_law_is_modal.nd rfl (Or.inl rfl)) (fun _ _ _ _ _ => pts_nil) (fun _ _ _ _ _ => (pe_cmpR op_isN (pv 9) pe_non (nomark _)))) (nomark _))
    (pss_one (ps_ret pe_bl))
    pss_nil)
  (pss_one (ps_ret (pe_and (pe_call (ok_law_same A) (hr.mono (by omega)) rfl A.law_same.m A.law_same.F.kp A.law_same.b .nil pass0 (pa_cons (pe_call (ok_law_lets A Z Z1) (hr.mono (by omega)) rfl A.law_lets.m A.law_lets.F.kp A.law_lets.b .nil pass0 (pa_cons pe_str (pa_cons (pv 6) pa_nil))) (pa_cons (pe_and (pe_ix ix_list (pv 11) pe_int (fun _ _ => rfl)) (pe_one (pe_ix ix_list (pv 11) pe_int (fun _ _ => rfl)))) pa_nil))) (pe_and (pe_call (ok_law_same A) (hr.mono (by omega)) rfl A.law_same.m A.law_same.F.kp A.law_same.b .nil pass0 (pa_cons (pe_call (ok_law_lets A Z Z1) (hr.mono (by omega)) rfl A.law_lets.m A.law_lets.F.kp A.law_lets.b .nil pass0 (pa_cons pe_str (pa_cons (pv 6) pa_nil))) (pa_cons (pe_ix ix_list (pv 11) pe_int (fun _ _ => rfl)) pa_nil))) (pe_one (pe_cmpR (op_eqD hr.units) (pv 7) (pe_lst (pa_cons (pe_and (pe_ix ix_list (pv 11) pe_int (fun _ _ => rfl)) (pe_one (pe_ix ix_list (pv 11) pe_int (fun _ _ => rfl)))) (pa_cons (pe_ix ix_list (pv 11) pe_int (fun _ _ => rfl)) pa_nil))) (nomark _))))))))))))))))), ?_⟩
    have ls : l ≠ st := str_nl hst hl
    walk_at "rd"
    rw [nVl_ln]
    refine ⟨st, 8, M, rfl, hst, by decide, by decide, fun d H1 d0 d1 hs1 a1 => ?_⟩
    obtain ⟨i, rfl⟩ : ∃ j : Nat, d = (j : Int) := ⟨d.toNat, by omega⟩
    have hl1 := a1 _ _ (notin1 ls) hl
    have al1 : ∀ b ∈ [st], H1 b ≠ none := fun b hb => by rw [List.mem_singleton.mp hb]; exact hs1.here
    walk_at "rd"
    refine ⟨⟨[st], i, rfl, al1, by omega, fun p sh rs u H2 hp hsh shM hrs hu uM a2 => ?_⟩⟩
    walk_at "rd"
    refine rd_gtup (SqT.of hp) rfl ?_
    have hs2 := hs1.same a2
    have al2 : ∀ b ∈ [st], H2 b ≠ none := fun b hb => by rw [List.mem_singleton.mp hb]; exact hs2.here
    walk_at "rd"
    intro d0 nd0
    have ad0 : Adv [] H2 (upd H2 d0 (.dK [])) := Adv.new nd0
    have R0 : RtM ss (LF fun _ => none) := ⟨n1, by omega, hlt, fun _ => Nat.two_pow_pos _⟩
    walk_at "rd"
    refine ⟨⟨[st], l, d0, ss, fun _ => none, rfl, alloc_adv al2 ad0 (by simp), ad0.same _ _ (a2.same _ _ hl1), R0, LtD.nil upd_same, fun mo H3 hmo a3 => ?_⟩⟩
    have a23 := (ad0.trans a3)
    have hs3 := hs2.same a23
    walk_at "rd"
    refine ⟨⟨_, mo, ss, _, rfl, by decide, by decide, R0, hmo.less (by simp), fun H4 a4 => ?_⟩⟩
    walk_at "rd"
    refine ⟨⟨_, mo, ss, _, rfl, by decide, by decide, R0, (hmo.less (by simp)).adv a4, fun H5 a5 => ?_⟩⟩
    walk_at "rd"
    refine ⟨by show 2 ≤ sizeLine; decide, fun du ndu => ?_⟩
    rw [right_s4, right_gl]
    have adu : Adv [] H5 (upd H5 du (.lst [.bl (propB "s4" ss), .bl (propB "gl" ss)])) := Adv.new ndu
    have a25 : Adv [] H2 _ := ((a23.trans a4).trans a5).trans adu
    have hl2 := a2.same _ _ hl1
    walk_at "rd"
    refine ⟨⟨l, ss, rfl, a25.same _ _ hl2, n1, n2, hlt, fun rf H6 nrf hrf a6 => ?_⟩⟩
    have a26 := a25.trans a6
    have hdu := a6.same _ _ (upd_same (a := du) (H := H5) (o := .lst [.bl (propB "s4" ss), .bl (propB "gl" ss)]))
    have hmo6 : Is [st] H6 (modD ss (LF fun _ => none)) mo := hmo.adv ((((a4.trans a5).trans adu).trans a6).more (by simp))
    have hsh6 := a26.same _ _ hsh
    have hrs6 := hrs.adv (a26.more (by simp))
    have hu6 := a26.same _ _ hu
    have hl6 := a26.same _ _ hl2
    have hs6 := hs2.same a26
    have a06 : Adv [st] H H6 := a1.trans ((a2.trans a26).nil)
    walk_at "rd"
    refine ⟨fun σ' H' => ∃ pl places, σ' = [some (.ref st), some (.ref l), some (.int (ss.length : Nat)), some (.int (i : Nat)), some (.ref sh), some (.ref u), some mo, some (.ref du), some (.ref rf), none, some (.ref pl), none, none, none, none] ∧ Plc ss places ∧ places.length ≤ 10000 ∧ H' pl = some (.lst (nVl places)) ∧ pl ≠ st ∧ StrAt M H' st ∧ Adv [st] H6 H', ?_, ?_⟩
    · walk_at "rd"
      refine iteB (fun e => ?_) (fun e => ?_)
      · have h5 : ss.length < 5 := by have := of_decide_eq_true e; omega
        have p16 : 2 ^ ss.length ≤ 2 ^ 4 := Nat.pow_le_pow_right (by decide) (by omega)
        unfold tLstRg tRg1
        walk_at "rd"
        refine rd_shl1 (by omega) ?_
        walk_at "rd"
        refine ⟨.of_le (by omega) (by omega) (by omega) (Int.natCast_nonneg _), fun pl npl => ?_⟩
        rw [rg_nat]
        have apl : Adv [] H6 (upd H6 pl (.lst (nVl (List.range (2 ^ ss.length))))) := Adv.new npl
        walk_at "rd"
        exact ⟨pl, _, rfl, Plc.all_ hlt, by rw [List.length_range]; omega, upd_same, fun z => hs6.here (by rw [← z]; exact npl), hs6.same apl, apl.nil⟩
      · walk_at "rd"
        unfold tLc iTup iRng1
        walk_at "rd"
        refine ⟨rf, rfl, ⟨_, SqT.of hrf⟩, fun D nD => ?_⟩
        have nDs : D ≠ st := fun z => hs6.here (by rw [← z]; exact nD)
        refine lc_tup (K := K) (a := rf) (xs := [refT ss, ref4 ss, refL ss].map oV) (fun k H' => Adv [] H6 H' ∧ H' D = some (.lst (nVl (([refT ss, ref4 ss, refL ss].take k).filterMap id)))) ⟨Adv.new nD, upd_same⟩ (fun k H' _ p => SqT.of (p.1.same _ _ hrf)) (fun k xv H' hx p => ?_) (fun H7 p => ?_)
        · obtain ⟨a7, hD⟩ := p
          rw [List.getElem?_map, Option.map_eq_some_iff] at hx
          obtain ⟨r, hr2, rfl⟩ := hx
          have fl : (([refT ss, ref4 ss, refL ss].take k).filterMap id).length ≤ 3 := by
            have h1 := List.length_filterMap_le id ([refT ss, ref4 ss, refL ss].take k)
            rw [List.length_take] at h1
            have : [refT ss, ref4 ss, refL ss].length = 3 := rfl
            omega
          refine ⟨rfl, ?_⟩
          walk_at "rd"
          rw [oV_none, take_snc hr2, List.filterMap_append]
          cases r with
          | none =>
            refine iteN rfl ⟨a7, ?_⟩
            rw [hD]
            simp
          | some m =>
            refine iteY rfl ?_
            walk_at "rd"
            refine ⟨_, hD, by rw [nVl_ln, sizeLine_eq]; omega, a7.mut nD, ?_⟩
            rw [upd_same]
            unfold nVl
            rw [List.map_append]
            rfl
        obtain ⟨a7, hD⟩ := p
        have hD : H7 D = some (.lst (nVl (refsL ss))) := hD
        have hs7 := hs6.same a7
        walk_at "rd"
        refine ⟨by decide, by decide, fun D2 nD2 => ?_⟩
        have nD2s : D2 ≠ st := fun z => hs7.here (by rw [← z]; exact nD2)
        have dd : D ≠ D2 := ne_of_none hD nD2
        have nD20 : H6 D2 = none := a7.free (by simp) nD2
        have a2 : Adv [] H7 (upd H7 D2 (.lst [])) := Adv.new nD2
        refine lc_range (lo := 0) (n := (4 : Int).toNat) (tt := tYes) (fun i H' => ∃ ms, H' D2 = some (.lst (nVl ms)) ∧ ms.length = i ∧ (∀ y ∈ ms, y < 2 ^ ss.length) ∧ StrAt (D2 :: M) H' st ∧ H' D = some (.lst (nVl (refsL ss))) ∧ Adv [st] H6 H') ⟨[], upd_same, rfl, by simp, (hs7.fresh nD2).same a2, a2.same _ _ hD, (a7.trans a2).nil⟩ (fun i H' hi p => ?_) (fun H' p => ?_)
        · obtain ⟨ms, hD2, ml, mlt, hs8, hDD, a8⟩ := p
          refine ⟨rfl, ?_⟩
          unfold tYes
          refine iteY rfl ?_
          refine bits_dn rfl rfl hs8 (by omega) (fun m H9 hm hs9 a9 => ?_)
          have hD9 := a9 _ _ (notin1 nD2s) hD2
          have i4 : i < 4 := hi
          refine ⟨_, hD9, by rw [nVl_ln, sizeLine_eq]; omega, ms ++ [m], ?_, by rw [List.length_append, ml]; rfl, fun y hy => ?_, hs9.adv (N := [D2]) (Adv.set (by simp)) (notin1 nD2s.symm) (by simp), by rw [upd_ne dd]; exact a9 _ _ (notin1 nDs) hDD, (a8.trans a9).mut nD20⟩
          · rw [upd_same]
            unfold nVl
            rw [List.map_append]
            rfl
          · rcases List.mem_append.mp hy with hy | hy
            · exact mlt y hy
            · rw [List.mem_singleton.mp hy]
              exact hm
        · obtain ⟨ms, hD2, ml, mlt, hs8, hDD, a8⟩ := p
          have ml4 : ms.length = 4 := ml
          have rl : (refsL ss).length ≤ 3 := List.length_filterMap_le id [refT ss, ref4 ss, refL ss]
          walk_at "rd"
          refine ⟨D, D2, _, _, rfl, rfl, hDD, hD2, by rw [nVl_ln, nVl_ln, sizeLine_eq]; omega, fun pl npl => ?_⟩
          have apl : Adv [] H' (upd H' pl (.lst (nVl (refsL ss) ++ nVl ms))) := Adv.new npl
          walk_at "rd"
          refine ⟨pl, refsL ss ++ ms, rfl, Plc.refs hlt mlt, by rw [List.length_append]; omega, ?_, fun z => hs8.here (by rw [← z]; exact npl), (hs8.less (by simp +contextual)).same apl, a8.trans apl.nil⟩
          rw [upd_same]
          unfold nVl
          rw [List.map_append]
    rintro σ' H7 ⟨pl, places, rfl, PL, pln, hpl, pls, hs7, a67⟩
    walk_at "rd"
    refine ⟨by show 1 ≤ sizeLine; decide, fun z nz => ?_⟩
    have az : Adv [] H7 (upd H7 z (.lst [.bl true])) := Adv.new nz
    walk_at "rd"
    refine ⟨z, 3, [.bl true], rfl, rfl, upd_same, by decide, by decide, by decide, fun aw naw => ?_⟩
    have aaw := az.newT (o := .lst (List.replicate (3 : Int).toNat [V.bl true]).flatten) naw
    have haw : (upd (upd H7 z (.lst [.bl true])) aw (.lst (List.replicate (3 : Int).toNat [V.bl true]).flatten)) aw = some (.lst (([okT ss, ok4 ss, okL ss].map fun ok => V.bl (([] : List Nat).all ok)))) := upd_same
    have hpl8 := aaw.same _ _ hpl
    have hs8 := hs7.same aaw
    have a68 : Adv [st] H6 _ := a67.trans aaw.nil
    generalize upd (upd H7 z (.lst [.bl true])) aw (.lst (List.replicate (3 : Int).toNat [V.bl true]).flatten) = H8 at haw hpl8 hs8 a68
    walk_at "rd"
    refine ⟨_, rfl, pl, rfl, ⟨_, SqL.of hpl8⟩, ?_⟩
    refine for_list (a := pl) (xs := nVl places) (fun k σ' H' => ∃ aw y9 y12 y13, σ' = [some (.ref st), some (.ref l), some (.int (ss.length : Nat)), some (.int (i : Nat)), some (.ref sh), some (.ref u), some mo, some (.ref du), some (.ref rf), y9, some (.ref pl), some (.ref aw), y12, y13, none] ∧ H' aw = some (.lst ([okT ss, ok4 ss, okL ss].map fun ok => V.bl ((places.take k).all ok))) ∧ aw ≠ st ∧ H' pl = some (.lst (nVl places)) ∧ StrAt M H' st ∧ Adv [st] H6 H')
      ⟨aw, _, _, _, rfl, haw, fun z => hs7.here (by rw [← z]; exact az.free (by simp) naw), hpl8, hs8, a68⟩ ?_ ?_ ?_
    · rintro k σ' H' hk ⟨aw, y9, y12, y13, rfl, _, _, hpl, _, _⟩
      exact SqL.of hpl
    · rintro k xv σ' H' hx ⟨aw, y9, y12, y13, rfl, haw, aws, hpl, hs, a⟩
      obtain ⟨pb, hpb, rfl⟩ := nVl_gt hx
      have hpbl := PL.lt pb (List.mem_of_getElem? hpb)
      have hl' := a _ _ (notin1 ls) hl6
      have hsh' := a _ _ (fun z => shM z) hsh6
      have hrs' := hrs6.adv a
      have hu' := a _ _ uM hu6
      walk_at "rd"
      refine oth_if ?_
      walk_at "rd"
      unfold tDisp tPairs
      walk_at "rd"
      intro dd ndd
      have add : Adv [] H' (upd H' dd (.dK [])) := Adv.new ndd
      have dds : dd ≠ st := fun z => hs.here (by rw [← z]; exact ndd)
      have ndd6 : H6 dd = none := a.free (notin1 dds) ndd
      refine ⟨_, rfl, _, rfl, ?_⟩
      unfold tPairs
      refine ⟨_, rfl, ?_⟩
      refine bits_dn rfl rfl ((hs.fresh ndd).same add) (by omega) (fun m H9 hm hs9 a9 => ?_)
      unfold tPairs
      have hdd9 := a9 _ _ (notin1 dds) (upd_same (a := dd) (H := H') (o := .dK []))
      refine ⟨hdd9, [(Sum.inl ((i : Nat) : Int), V.int (pb : Nat)), (Sum.inl ((otherI i : Nat) : Int), V.int (m : Nat))], rfl, by show 2 ≤ 15; decide, ?_⟩
      have hLD : LtD (upd H9 dd (.dK (mergeK [] [(Sum.inl ((i : Nat) : Int), V.int (pb : Nat)), (Sum.inl ((otherI i : Nat) : Int), V.int (m : Nat))]))) dd (f2 i pb (otherI i) m) := ⟨_, upd_same, Nat.le_trans (length_mergeK _ _) (by show 0 + 2 ≤ 100; decide), merge2 i pb (otherI i) m⟩
      generalize mergeK [] [(Sum.inl ((i : Nat) : Int), V.int (pb : Nat)), (Sum.inl ((otherI i : Nat) : Int), V.int (m : Nat))] = mk at hLD
      have b9 : Adv [st] H' (upd H9 dd (.dK mk)) := (add.nil.trans a9).mut ndd
      have hs10 : StrAt M (upd H9 dd (.dK mk)) st := (hs9.adv (N := [dd]) (Adv.set (by simp)) (notin1 dds.symm) (by simp)).less (by simp +contextual)
      have a10 := a.trans b9
      generalize upd H9 dd (.dK mk) = H10 at hLD hs10 a10 b9
      have al10 : ∀ b ∈ [st], H10 b ≠ none := fun b hb => by rw [List.mem_singleton.mp hb]; exact hs10.here
      have RR : RtM ss (LF (f2 i pb (otherI i) m)) := ⟨n1, by omega, hlt, fun j => by
        unfold LF f2
        split
        · exact hm
        · split
          · exact hpbl
          · exact Nat.two_pow_pos _⟩
      walk_at "rd"
      refine ⟨⟨[st], l, dd, ss, _, rfl, al10, a10 _ _ (notin1 ls) hl6, RR, hLD, fun mv H11 hmv a11 => ?_⟩⟩
      have hs11 := hs10.same a11
      have a611 := a10.trans a11.nil
      have hsh11 := a611 _ _ shM hsh6
      have hrs11 := hrs6.adv a611
      have hu11 := a611 _ _ uM hu6
      walk_at "rd"
      intro cp ncp
      have acp : Adv [] H11 (upd H11 cp (.lst rs)) := Adv.new ncp
      walk_at "rd"
      refine ⟨⟨"k", mv, cp, u, rs, ss, _, schN i, [3, 5, 7, 12, 13], rfl, by decide, by decide, word_k, RR, (hmv.less (by simp)).adv acp, upd_same, (hrs11.less (by simp)).adv acp, ⟨sch_nd i, sch_okn (by omega)⟩, by show 14 ≤ 5000; decide, .inr (Tp.of (acp.same _ _ hu11) (by simp)), by decide, fun r hr => ?_, fun hd H12 nhd hhd a12 => ?_⟩⟩
      · show r < 14
        simp at hr
        omega
      have hhd : H12 hd = some (.lst (([okT ss, ok4 ss, okL ss].map fun ok => V.bl (ok pb)) ++ [.bl true, .bl (decide (schP ss (LF (f2 i pb (otherI i) m) i) = every ss.length))])) := by
        have ei : LF (f2 i pb (otherI i) m) i = pb := by
          unfold LF f2
          rw [if_neg (oth_ne i).symm, if_pos rfl]
          rfl
        have e0 : decide (("k" : Str) = "intuit") = false := by decide
        rw [hhd, e0, sch_tm, ei]
        have eK : V.bl (decide (schK ss pb (LF (f2 i pb (otherI i) m) (otherI i)) = every ss.length)) = V.bl true := by rw [decide_eq_true (schK_yes hlt _ _)]
        show some (HO.lst [V.bl (okT ss pb), V.bl (ok4 ss pb), V.bl (okL ss pb), V.bl (decide (schK ss pb (LF (f2 i pb (otherI i) m) (otherI i)) = every ss.length)), V.bl (decide (schP ss pb = every ss.length))]) = _
        rw [eK]
        rfl
      walk_at "rd"
      unfold tLc iRng1
      walk_at "rd"
      have aws' : aw ∉ [st] := notin1 aws
      have haw11 := (a11.same _ _ (b9 _ _ aws' haw))
      have haw12 := a12.same _ _ (acp.same _ _ haw11)
      have a612 := a611.trans (acp.trans a12).nil
      have hs12 := hs11.same (acp.trans a12)
      refine ⟨by decide, by decide, fun D nD => ?_⟩
      have nDs : D ≠ st := fun z => hs12.here (by rw [← z]; exact nD)
      refine lc_mapRl (fun j => V.bl ((places.take (k + 1)).all ([okT ss, ok4 ss, okL ss].getD j (okT ss)))) nD (by decide) ?_ ?_
      · intro j H13 acc R' hj a13 hD kk
        have hj3 : j < 3 := hj
        have eo : [okT ss, ok4 ss, okL ss][j]? = some ([okT ss, ok4 ss, okL ss].getD j (okT ss)) := by
          rw [List.getD_eq_getElem?_getD, List.getElem?_eq_getElem (by exact hj3)]
          rfl
        generalize [okT ss, ok4 ss, okL ss].getD j (okT ss) = ok at eo kk
        have e1 : ([okT ss, ok4 ss, okL ss].map fun ok => V.bl ((places.take k).all ok))[j]? = some (.bl ((places.take k).all ok)) := by rw [List.getElem?_map, eo]; rfl
        have e2 : (([okT ss, ok4 ss, okL ss].map fun ok => V.bl (ok pb)) ++ [.bl true, .bl (decide (schP ss (LF (f2 i pb (otherI i) m) i) = every ss.length))])[j]? = some (.bl (ok pb)) := by
          rw [List.getElem?_append_left (by exact hj3), List.getElem?_map, eo]
          rfl
        have haw13 := a13.same _ _ haw12
        have hhd13 := a13.same _ _ hhd
        rw [Int.zero_add]
        have ea : (places.take (k + 1)).all ok = ((places.take k).all ok && ok pb) := by
          rw [take_snc hpb, List.all_append]
          simp
        rw [ea] at kk
        refine ⟨rfl, ?_⟩
        walk_at "rd"
        cases c : (places.take k).all ok with
        | true =>
          rw [c] at kk
          refine iteY rfl ?_
          walk_at "rd"
          exact kk H13 hD a13
        | false =>
          rw [c] at kk
          exact iteN rfl (kk H13 hD a13)
      · intro H13 a13 hD
        walk_at "rd"
        refine ⟨D, _, _, _, rfl, hD, nDs, a13.same _ _ (a12.same _ _ (acp.same _ _ (a11.same _ _ (b9 _ _ (notin1 pls) hpl)))), hs12.same a13, a612.trans a13.nil⟩
    rintro σ' H' ⟨aw, y9, y12, y13, rfl, haw, aws, hpl, hs, a⟩
    rw [nVl_ln, List.take_length] at haw
    have hT := (tellsT hlt).all PL.lt PL.t
    have h4 := (tells4 hlt).all PL.lt PL.f
    have hL := (tellsL hlt).all PL.lt PL.l
    have haw : H' aw = some (.lst [.bl (refT ss).isNone, .bl (ref4 ss).isNone, .bl (refL ss).isNone]) := by
      rw [haw, ← hT, ← h4, ← hL]
      rfl
    have rfs : rf ≠ st := fun z => (hs2.same a25).here (by rw [← z]; exact nrf)
    have dus : du ≠ st := fun z => (hs3.same (a4.trans a5)).here (by rw [← z]; exact ndu)
    have hrf' := a _ _ (notin1 rfs) hrf
    have hdu' := a _ _ (notin1 dus) hdu
    have hmo' := hmo6.adv a
    walk_at "rd"
    unfold tLc iTup
    walk_at "rd"
    refine ⟨rf, rfl, ⟨_, SqT.of hrf'⟩, fun D nD => ?_⟩
    refine lc_mapT (K := K) (a := rf) (xs := [refT ss, ref4 ss, refL ss].map oV) (fun j => V.bl (([refT ss, ref4 ss, refL ss].getD j none).isNone)) nD (SqT.of hrf') (by simp) (fun j xv H13 acc R' hx aH hD kk => ?_) (fun H13 a13 hD => ?_)
    · rw [List.getElem?_map, Option.map_eq_some_iff] at hx
      obtain ⟨r, hr2, rfl⟩ := hx
      have er : [refT ss, ref4 ss, refL ss].getD j none = r := by rw [List.getD_eq_getElem?_getD, hr2]; rfl
      rw [er] at kk
      refine ⟨rfl, ?_⟩
      walk_at "rd"
      rw [oV_none]
      exact kk H13 hD aH
    have hD : H13 D = some (.lst [.bl (refT ss).isNone, .bl (ref4 ss).isNone, .bl (refL ss).isNone]) := hD
    have haw13 := a13.same _ _ haw
    have hmo13 := hmo'.adv (a13.more (by simp))
    have hdu13 := a13.same _ _ hdu'
    refine ⟨_, _, dp3 haw13, dp3 hD, shp3 _ _ _, shp3 _ _ _, ?_⟩
    rw [eqv3]
    refine ⟨_, rfl, iteN rfl ?_⟩
    walk_at "rd"
    refine ⟨⟨"s4", mo, ss, _, rfl, by decide, by decide, R0, hmo13.less (by simp), fun H14 a14 => ?_⟩⟩
    have haw14 := a14.same _ _ haw13
    walk_at "rd"
    refine ix_and rfl haw14 rfl ?_
    walk_at "rd"
    rw [← right_word, right_s4, prop_s4 hlt]
    refine ⟨_, _, .bool _, rfl, Is.bl, Is.bl, sz_bl _, fun H15 a15 => ?_⟩
    have haw15 := a15.same _ _ haw14
    refine ⟨_, rfl, iteY rfl ?_⟩
    walk_at "rd"
    refine ⟨⟨"gl", mo, ss, _, rfl, by decide, by decide, R0, (hmo13.less (by simp)).adv (a14.trans a15), fun H16 a16 => ?_⟩⟩
    have haw16 := a16.same _ _ haw15
    walk_at "rd"
    rw [← right_word, right_gl, prop_glL hlt]
    refine ⟨_, _, .bool _, rfl, Is.bl, Is.bl, sz_bl _, fun H17 a17 => ?_⟩
    have haw17 := a17.same _ _ haw16
    refine ⟨_, rfl, iteY rfl ?_⟩
    walk_at "rd"
    refine ix_and rfl haw17 rfl ?_
    walk_at "rd"
    refine ⟨by show 2 ≤ sizeLine; decide, fun pz npz => ?_⟩
    have apz : Adv [] H17 (upd H17 pz (.lst [.bl ((refT ss).isNone && (ref4 ss).isNone), .bl (refL ss).isNone])) := Adv.new npz
    have a1317 : Adv [] H' _ := (((((a13.trans a14).trans a15).trans a16).trans a17).trans apz)
    have hduz := a1317.same _ _ hdu'
    rw [prop_s4 hlt, prop_glL hlt] at hduz
    refine ⟨_, _, dp2 hduz, dp2 upd_same, shp2 _ _, shp2 _ _, ?_⟩
    rw [eqv2]
    exact q _ (hs.same a1317) ((a06.trans a).trans a1317.nil)
end
end K10

set_option Elab.async false
set_option linter.all false
set_option maxRecDepth 100000
set_option maxHeartbeats 4000000
namespace K10
open PySem PySem.Spec PyProof.Rows L2 LL
open C8 (pss_cut)
local macro_rules | `(tactic| walk_at "ne") => `(tactic| first | assumption | (apply Ne.symm; assumption) | exact ne_of_none (by walk_at "hp") (by assumption) | exact (ne_of_none (by walk_at "hp") (by assumption)).symm)
local macro_rules | `(tactic| walk_at "nm") => `(tactic| first | assumption | exact notin0 | exact notin1 (by walk_at "ne") | exact notin2 (by walk_at "ne") (by walk_at "ne"))
local macro_rules | `(tactic| walk_at "hp") => `(tactic| first | assumption | exact upd_same | (refine Eq.trans (upd_ne ?ne) ?hh; (case hh => walk_at "hp"); (case ne => walk_at "ne")) | (refine Adv.get' (by assumption) ?hh ?nn; (case hh => walk_at "hp"); (case nn => walk_at "nm")))
local macro_rules | `(tactic| walk_at "tp") => `(tactic| first | assumption | exact Tp.adv (by walk_at "tp") (by assumption) | exact Tp.adv (by walk_at "tp") (Adv.nil (by assumption)))
local macro_rules | `(tactic| walk_at "sq") => `(tactic| first | assumption | exact Tp.sq (by assumption) (by walk_at "tp") | exact SqT.of (by walk_at "hp"))
local macro_rules | `(tactic| walk_at "at") => `(tactic| first | exact atI_nat (j := 0) rfl | exact atI_nat (j := 1) rfl | exact atI_nat (j := 2) rfl | exact atI_nat (j := 3) rfl | exact atI_nat (by assumption) | (rw [Int.zero_add]; exact atI_nat (by assumption)))
local macro_rules | `(tactic| walk_at "bb") => `(tactic| first | assumption | decide | exact rfl)
local macro_rules | `(tactic| walk_at "ci") => `(tactic| first | omega | (dsimp only; omega) | (unfold CDiv; omega) | (unfold CMul; omega))
local macro_rules | `(tactic| walk_at "rd1") => `(tactic| first
  | with_reducible refine rd_c ?_
  | ((with_reducible refine' rd_var ?rh ?_); (case rh => exact rfl))
  | with_reducible refine rd_op ?_
  | with_reducible refine rd_seq ?_
  | with_reducible refine rd_asg ?_
  | with_reducible refine rd_gname ?_
  | with_reducible refine rd_ifS ?_
  | with_reducible refine rd_test ?_
  | with_reducible refine rd_tB ?_
  | with_reducible refine rd_blP ?_
  | ((with_reducible refine' iteY ?rh ?_); (case rh => walk_at "bb"))
  | ((with_reducible refine' iteN ?rh ?_); (case rh => walk_at "bb"))
  | with_reducible refine rd_ret ?_
  | with_reducible refine rd_nx ?_
  | ((with_reducible refine' rd_eq ?rh ?_); (case rh => exact rfl))
  | ((with_reducible refine' rd_ne ?rh ?_); (case rh => exact rfl))
  | with_reducible refine rd_add ?_
  | with_reducible refine rd_sub ?_
  | with_reducible refine rd_i0 ?_
  | with_reducible refine rd_and ?_
  | with_reducible refine rd_or ?_
  | with_reducible refine rd_not ?_
  | with_reducible refine rd_andV ?_
  | with_reducible refine rd_orV ?_
  | with_reducible refine rd_notV ?_
  | with_reducible refine rd_ifE ?_
  | with_reducible refine rd_isN ?_
  | with_reducible refine rd_notN ?_
  | with_reducible refine rd_cons ?_
  | with_reducible refine rd_nil ?_
  | with_reducible refine rd_tup ?_
  | with_reducible refine rd_lst ?_
  | with_reducible refine rd_call ?_
  | with_reducible refine rd_cb ?_
  | with_reducible refine rd_meth ?_
  | with_reducible refine rd_callS ?_
  | with_reducible refine rd_make ?_
  | with_reducible refine rd_rfl ?_
  | with_reducible refine rd_fld ?_
  | with_reducible refine rd_drop ?_
  | with_reducible refine rd_gsub ?_
  | with_reducible refine rd_gcons ?_
  | with_reducible refine rd_gnil ?_
  | with_reducible refine rd_par ?_
  | with_reducible refine rd_two ?_
  | with_reducible refine rd_par3 ?_
  | with_reducible refine rd_three ?_
  | with_reducible refine rd_int1 ?_
  | ((with_reducible refine' rd_i ?rh ?_); (case rh => walk_at "ci"))
  | with_reducible refine rd_part ?_
  | with_reducible refine rd_nopart ?_
  | with_reducible refine rd_int ?_
  | with_reducible refine rd_sl ?_
  | with_reducible refine rd_bm ?_
  | with_reducible refine rd_bm0 ?_
  | with_reducible refine rd_dgetT ?_
  | with_reducible refine rd_din ?_
  | with_reducible refine rd_dnin ?_
  | with_reducible refine rd_un ?_
  | ((with_reducible refine' rd_ixL ?rh ?re ?_); (case rh => walk_at "hp"); (case re => walk_at "at"))
  | ((with_reducible refine' rd_ixT ?rh ?re ?_); (case rh => walk_at "sq"); (case re => walk_at "at"))
  | ((with_reducible refine' rd_lenT ?rh ?_); (case rh => walk_at "sq"))
  | ((with_reducible refine' rd_tyL ?rh ?_); (case rh => walk_at "hp"))
  | ((with_reducible refine' rd_len ?rh ?_); (case rh => walk_at "hp"))
  | with_reducible refine rd_u ?_
  | ((with_reducible refine' rd_slL ?rh ?_); (case rh => walk_at "hp"))
  | with_reducible refine rd_for ?_
  | with_reducible refine rd_rng1 ?_
  | with_reducible refine rd_rng2 ?_
  | with_reducible refine rd_ints1 ?_
  | with_reducible refine rd_ints2 ?_
  | with_reducible refine rd_retN ?_)
local macro_rules | `(tactic| walk_at "rd") => `(tactic| repeat walk_at "rd1")
section
variable [KW]
variable {P : Program} {w : World} {K : PySem.W.Frag} {mg : Str → Option Value} {base : Heap}
/-! ### _law_is_kept -/
/-- a dict that grows -/
def LtK (H : Hp) (d : Addr) (f : Nat → Option Nat) (k : Nat) : Prop := ∃ kvs : List (Key × V), H d = some (.dK kvs) ∧ kvs.length ≤ k ∧ ∀ i : Nat, valV kvs (Sum.inl ((i : Nat) : Int)) = (f i).map fun k => V.int (k : Nat)
theorem LtK.adv {M : List Addr} {H H' : Hp} {d : Addr} {f : Nat → Option Nat} {k : Nat} (x : LtK H d f k) (a : Adv M H H') (h : d ∉ M) : LtK H' d f k := by
  obtain ⟨kvs, hd, hl, hv⟩ := x
  exact ⟨kvs, a _ _ h hd, hl, hv⟩
theorem LtK.ltd {H : Hp} {d : Addr} {f : Nat → Option Nat} {k : Nat} (x : LtK H d f k) (hk : k ≤ 100) : LtD H d f := by
  obtain ⟨kvs, hd, hl, hv⟩ := x
  exact ⟨kvs, hd, by omega, hv⟩
theorem inl_nat {a b : Nat} : ((Sum.inl ((a : Nat) : Int) : Key) = Sum.inl ((b : Nat) : Int)) ↔ a = b := by
  constructor
  · intro h
    injection h with h
    omega
  · rintro rfl
    rfl
theorem LtK.put {H : Hp} {d : Addr} {f : Nat → Option Nat} {k : Nat} (x : LtK H d f k) (hk : k ≤ 100) (i m : Nat) : ∃ H' o, DPut H d (.int (i : Nat)) (.int (m : Nat)) H' ∧ H' = upd H d o ∧ LtK H' d (fun j => if j = i then some m else f j) (k + 1) := by
  obtain ⟨kvs, hd, hl, hv⟩ := x
  refine ⟨_, _, DPut.k (k := Sum.inl ((i : Nat) : Int)) hd (by rw [sizeLine_eq]; omega), rfl, ⟨_, upd_same, by have := length_putK kvs (Sum.inl ((i : Nat) : Int) : Key) (V.int (m : Nat)); omega, fun j => ?_⟩⟩
  rw [valV_put]
  show _ = Option.map (fun k : Nat => V.int (k : Nat)) (if j = i then some m else f j)
  by_cases h1 : j = i
  · rw [if_pos (inl_nat.mpr h1), if_pos h1]; rfl
  · rw [if_neg (fun z => h1 (inl_nat.mp z)), if_neg h1, hv]
theorem pre_at {l m : List Nd} (h : l <+: m) {i : Nat} {n : Nd} (e : l[i]? = some n) : m[i]? = some n := by
  obtain ⟨t, rfl⟩ := h
  rw [List.getElem?_append_left (List.getElem?_eq_some_iff.mp e).1]
  exact e
def NotR (ns : List Nd) (p q : Nat) : Prop := ∃ z, ns[q]? = some (.bin .imp p z) ∧ ns[z]? = some .no
def EmR (ns : List Nd) (p m : Nat) : Prop := ∃ q, ns[m]? = some (.bin .or p q) ∧ NotR ns p q
theorem NotR.mono {l m : List Nd} {p q : Nat} (h : NotR l p q) (pr : l <+: m) : NotR m p q := by
  obtain ⟨z, h1, h2⟩ := h
  exact ⟨z, pre_at pr h1, pre_at pr h2⟩
theorem EmR.mono {l m : List Nd} {p q : Nat} (h : EmR l p q) (pr : l <+: m) : EmR m p q := by
  obtain ⟨z, h1, h2⟩ := h
  exact ⟨z, pre_at pr h1, h2.mono pr⟩
theorem deny_pre (ns : List Nd) (r : Nat) : ns <+: (denyF ns r).2 := (rowF_pre ns .no).trans (rowF_pre _ _)
theorem deny_not (ns : List Nd) (r : Nat) : NotR (denyF ns r).2 r (denyF ns r).1 := ⟨(rowF ns .no).1, rowF_at _ _, pre_at (rowF_pre _ _) (rowF_at ns .no)⟩
theorem deny_lt (ns : List Nd) (r : Nat) : (denyF ns r).1 < (denyF ns r).2.length := rowF_lt _ _
theorem deny_len (ns : List Nd) (r : Nat) : (denyF ns r).2.length ≤ ns.length + 2 := by
  have h1 := row_len ns .no
  have h2 := row_len (rowF ns .no).2 (.bin .imp r (rowF ns .no).1)
  show (rowF (rowF ns .no).2 (.bin .imp r (rowF ns .no).1)).2.length ≤ _
  omega
theorem deny_dw {M : List Addr} {H H' : Hp} {s bk b0 b1 : Addr} {bx : Bool} {ns : List Nd} {r : Nat} (x : Dw M H s bk b0 b1 bx ns) (hr : r < ns.length) (a : Adv [b0, b1] H H') (B : BkN M H' b0 b1 (denyF ns r).2) : Dw M H' s bk b0 b1 bx (denyF ns r).2 := by
  have h1 : (rowF ns .no).1 < (rowF ns .no).2.length := rowF_lt _ _
  have h2 := (rowF_pre ns .no).length_le
  exact ⟨x.str.adv a (notin2 x.s0 x.s1) (by simp [x.B.m0, x.B.m1]), a _ _ x.kb x.hbk, x.ms, x.kM, x.s0, x.s1, B, rowF_ok (rowF_ok x.ok rfl) (by simp only [Nd.ok, Bool.and_eq_true, decide_eq_true_eq]; omega)⟩
theorem row_dw {M : List Addr} {H : Hp} {s bk b0 b1 p : Addr} {bx : Bool} {ns : List Nd} {Q : VK} (n : Nd) (D : Dw M H s bk b0 b1 bx ns) (hp : H p = none) (hn : n.ok bx ns.length = true) (hl : ns.length ≤ 900000)
    (q : ∀ H', Dw M H' s bk b0 b1 bx (rowF ns n).2 → Adv [s, b0, b1] H H' → Q (.int ((rowF ns n).1 : Nat)) H') : RowP [.ref bk, .ref p] (upd H p (.tup (n.keys.map kV))) Q := by
  have a : Adv [] H (upd H p (.tup (n.keys.map kV))) := Adv.new hp
  have D1 := D.same a
  exact ⟨⟨M, bk, b0, b1, p, ns, n, rfl, D1.hbk, D.kM, D1.B, Tp.of upd_same (not_mem_new D.B.al hp), by omega, fun H' B' a' => q H' (D1.row hn a' B') ((Adv.nil a).trans (a_b a'))⟩⟩
theorem em_row' {ss : List Nat} {L : Nat → Nat} {ns : List Nd} (ok : okSheet false ns) {p m : Nat} (h : EmR ns p m) : sA (tmF true ss L ns) m = emV ss (sA (tmF true ss L ns) p) := by
  obtain ⟨q, h1, z, h2, h3⟩ := h
  exact em_row ok h1 h2 h3
structure KptP (vs : List V) (H : Hp) (Q : VK) : Prop where
  ex : ∃ (s l : Addr) (ss : List Nat), vs = [.ref s, .ref l] ∧ StrAt [s] H s ∧ H l = some (.lst (nVl ss)) ∧ 1 ≤ ss.length ∧ ss.length ≤ 40 ∧ (∀ x ∈ ss, x < 2 ^ ss.length) ∧ ∀ H', StrAt [s] H' s → Adv [s] H H' → Q (.bl true) H'
def spKpt : Sp := fun vs H Q _ => KptP vs H Q
theorem ok_law_is_kept (A : All K mg w) (Z : Exs K mg) (Z1 : Er_BadModel Z) : FnOk P w K mg base CX0 15 A.law_is_kept.f A.law_is_kept.fd ["stream", "sees"] spKpt := by
  refine A.law_is_kept.F.ok sc_law_is_kept (fun vs H Q E h => ?_) (fun cdv Ar outer s H vs Q E hr h => ?_)
  · obtain ⟨st, l, ss, rfl, _⟩ := h.ex
    rfl
  · obtain ⟨st, l, ss, rfl, hst, hl, n1, n2, hlt, q⟩ := h.ex
    refine ⟨_, (pss_cons (ps_set (i := 2) sc_law_is_kept.nd rfl (Or.inl rfl) (pe_callB call_len_seq (by rfl) A.T.len PySem.boot_len (pa_cons (pv 1) pa_nil)))
  (pss_cons (ps_set (i := 3) sc_law_is_kept.nd rfl (Or.inl rfl) pe_dnewK)
  (pss_cons (ps_for PassesOwn.never rfl (pi_range1 rfl A.T.range (pa_cons pe_int pa_nil)) (pg_name (i := 4) sc_law_is_kept.nd rfl (Or.inl rfl))
    (pss_cons (ps_set (i := 5) sc_law_is_kept.nd rfl (Or.inl rfl) (pe_call (ok_law_bits A) (hr.mono (by omega)) rfl A.law_bits.m A.law_bits.F.kp A.law_bits.b .nil pass0 (pa_cons (pe_call (ok_law_some A) (hr.mono (by omega)) rfl A.law_some.m A.law_some.F.kp A.law_some.b .nil pass0 (pa_cons (pv 0) (pa_cons (pe_listRg rfl rfl A.T.list (prg_1 rfl A.T.range (pv 2))) (pa_cons pe_int pa_nil)))) pa_nil)))
  (pss_cons (ps_for PassesOwn.never rfl (pi_list (pe_call (ok_law_listed A) (hr.mono (by omega)) rfl A.law_listed.m A.law_listed.F.kp A.law_listed.b .nil pass0 (pa_cons (pv 5) (pa_cons (pv 2) pa_nil)))) (pg_name (i := 6) sc_law_is_kept.nd rfl (Or.inl rfl))
    (pss_one (ps_set (i := 5) sc_law_is_kept.nd rfl (Or.inl rfl) (pe_op op_or (pv 5) (pe_ix ix_list (pv 1) (pv 6) (fun _ _ => rfl))))))
  (pss_one (ps_dput (hu_of hr) (pv 3) (pv 4) (pv 5) rfl)))))
  (pss_cut (ps_if (pt_cmpR op_eq (pe_call (ok_law_next A) (hr.mono (by omega)) rfl A.law_next.m A.law_next.F.kp A.law_next.b .nil pass0 (pa_cons (pv 0) (pa_cons pe_int pa_nil))) pe_int (nomark _))
    (pss_cons (ps_set (i := 4) sc_law_is_kept.nd rfl (Or.inl rfl) (pe_call (ok_law_next A) (hr.mono (by omega)) rfl A.law_next.m A.law_next.F.kp A.law_next.b .nil pass0 (pa_cons (pv 0) (pa_cons pe_int pa_nil))))
  (pss_one (ps_dput (hu_of hr) (pv 3) (pv 4) (pe_op op_xor (pe_dget (hu_of hr) (pv 3) (pv 4) (fun _ _ => rfl)) (pe_op op_shl pe_int (pe_call (ok_law_next A) (hr.mono (by omega)) rfl A.law_next.m A.law_next.F.kp A.law_next.b .nil pass0 (pa_cons (pv 0) (pa_cons (pv 2) pa_nil))))) rfl)))
    pss_nil)
  (pss_cons (ps_set (i := 7) sc_law_is_kept.nd rfl (Or.inl rfl) (pe_call (ok_law_with A) (hr.mono (by omega)) rfl A.law_with.m A.law_with.F.kp A.law_with.b .nil pass0 (pa_cons (pv 1) (pa_cons (pv 3) pa_nil))))
  (pss_cons (ps_set (i := 8) sc_law_is_kept.nd rfl (Or.inl rfl) (pe_call (ok_law_is_right_model A) (hr.mono (by omega)) rfl A.law_is_right_model.m A.law_is_right_model.F.kp A.law_is_right_model.b .nil pass0 (pa_cons pe_str (pa_cons (pv 7) pa_nil))))
  (pss_cons (ps_for PassesOwn.never rfl (pi_range1 rfl A.T.range (pa_cons pe_int pa_nil)) (pg_name (i := 4) sc_law_is_kept.nd rfl (Or.inl rfl))
    (pss_cons (ps_asg (pe_call (ok_law_schemes A) (hr.mono (by omega)) rfl A.law_schemes.m A.law_schemes.F.kp A.law_schemes.b .nil pass0 (pa_cons (pv 4) pa_nil)) (pg_tup rfl (pgs_cons (pg_name (i := 9) sc_law_is_kept.nd rfl (Or.inl rfl)) (pgs_cons (pg_name (i := 10) sc_law_is_kept.nd rfl (Or.inl rfl)) pgs_nil))))
  (pss_one (ps_set (i := 8) sc_law_is_kept.nd rfl (Or.inl rfl) (pe_and (pv 8) (pe_one (pe_ix ix_list (pe_call (ok_law_hold A Z Z1) (hr.mono (by omega)) rfl A.law_hold.m A.law_hold.F.kp A.law_hold.b .nil pass0 (pa_cons pe_str (pa_cons (pv 7) (pa_cons (pe_callTy call_list_of (by rfl) A.T.list (by decide +kernel) (pa_cons (pv 9) pa_nil)) (pa_cons (pv 10) pa_nil))))) pe_int (fun _ _ => rfl))))))))
  (pss_cons (ps_if (PW.pt (pw_or (pt_not (pt_val (pe_call (ok_law_same A) (hr.mono (by omega)) rfl A.law_same.m A.law_same.F.kp A.law_same.b .nil pass0 (pa_cons (pe_call (ok_law_lets A Z Z1) (hr.mono (by omega)) rfl A.law_lets.m A.law_lets.F.kp A.law_lets.b .nil pass0 (pa_cons pe_str (pa_cons (pv 7) pa_nil))) (pa_cons (pv 8) pa_nil))))) (pw_or1 (pt_cmpR op_ne (pv 8) (pe_call (ok_law_is_right_model A) (hr.mono (by omega)) rfl A.law_is_right_model.m A.law_is_right_model.F.kp A.law_is_right_model.b .nil pass0 (pa_cons pe_str (pa_cons (pv 7) pa_nil))) (nomark _)))))
    (pss_one (ps_ret pe_bl))
    pss_nil)
  (pss_cons (ps_if (pt_not (pt_val (pv 8)))
    (pss_one (ps_ret pe_bl))
    pss_nil)
  (pss_cons (ps_set (i := 11) sc_law_is_kept.nd rfl (Or.inl rfl) (pe_lst (pa_cons (pe_lst pa_nil) (pa_cons (pe_dnewX A.W) pa_nil))))
  (pss_cons (ps_set (i := 12) sc_law_is_kept.nd rfl (Or.inl rfl) (pe_call (ok_law_formula A 8) (hr.mono (by omega)) rfl A.law_formula.m A.law_formula.F.kp A.law_formula.b .nil pass0 (pa_cons (pv 0) (pa_cons (pv 11) (pa_cons pe_int (pa_cons (pe_call (ok_law_next A) (hr.mono (by omega)) rfl A.law_next.m A.law_next.F.kp A.law_next.b .nil pass0 (pa_cons (pv 0) (pa_cons pe_int pa_nil))) (pa_cons pe_bl pa_nil)))))))
  (pss_cons (ps_set (i := 13) sc_law_is_kept.nd rfl (Or.inl rfl) (pe_call (ok_law_row A) (hr.mono (by omega)) rfl A.law_row.m A.law_row.F.kp A.law_row.b .nil pass0 (pa_cons (pv 11) (pa_cons (pe_tup (pa_cons pe_str (pa_cons (pv 12) (pa_cons (pe_call (ok_law_not A) (hr.mono (by omega)) rfl A.law_not.m A.law_not.F.kp A.law_not.b .nil pass0 (pa_cons (pv 11) (pa_cons (pv 12) pa_nil))) pa_nil)))) pa_nil))))
  (pss_cons (ps_set (i := 14) sc_law_is_kept.nd rfl (Or.inl rfl) (pe_call (ok_law_row A) (hr.mono (by omega)) rfl A.law_row.m A.law_row.F.kp A.law_row.b .nil pass0 (pa_cons (pv 11) (pa_cons (pe_tup (pa_cons pe_str (pa_cons pe_int pa_nil))) pa_nil))))
  (pss_cons (ps_set (i := 15) sc_law_is_kept.nd rfl (Or.inl rfl) (pe_call (ok_law_row A) (hr.mono (by omega)) rfl A.law_row.m A.law_row.F.kp A.law_row.b .nil pass0 (pa_cons (pv 11) (pa_cons (pe_tup (pa_cons pe_str (pa_cons (pv 14) (pa_cons (pe_call (ok_law_not A) (hr.mono (by omega)) rfl A.law_not.m A.law_not.F.kp A.law_not.b .nil pass0 (pa_cons (pv 11) (pa_cons (pv 14) pa_nil))) pa_nil)))) pa_nil))))
  (pss_cons (ps_setLc (i := 16) (own := [("v", 6), ("w", 17)]) (g := (gTup K 2 (gCons (gName 6) (gCons (gName 17) gNil)))) rfl sc_law_is_kept.nd rfl rfl (sw_true rfl rfl rfl (by decide +kernel)) (pi_list (pe_call (ok_law_arcs A) (hr.mono (by omega)) rfl A.law_arcs.m A.law_arcs.F.kp A.law_arcs.b .nil pass0 (pa_cons (pv 1) pa_nil))) (blkOk_by (own := [("v", 6), ("w", 17)]) (N := ["stream", "sees", "worlds", "letters", "i", "held", "v", "model", "always", "sheet", "rows", "book", "p", "middle", "one", "single", "ways", "w"]) (sc := defScope s_law_is_kept) (by decide +kernel)) (fun _ _ _ _ _ => (pg_tupK K rfl rfl (pgs_cons (pg_name (i := 6) sc_law_is_kept.nd rfl (Or.inl rfl)) (pgs_cons (pg_name (i := 17) sc_law_is_kept.nd rfl (Or.inl rfl)) pgs_nil)))) (fun _ _ _ _ _ => pts_one (pt_cmpR op_eq (pe_op op_and (pe_ix (ix_listK K rfl) (pv 1) (pv 17) (fun _ _ => rfl)) (pe_op op_shl pe_int (pv 6))) pe_int (nomark _))) (fun _ _ _ _ _ => (pe_tup (pa_cons (pv 6) (pa_cons (pv 17) pa_nil)))))
  (pss_cons (ps_if (pt_cmpR op_gt (pe_callB call_len_seq (by rfl) A.T.len PySem.boot_len (pa_cons (pv 16) pa_nil)) pe_int (nomark _))
    (pss_one (ps_ret (pe_not (pe_ix ix_list (pe_call (ok_law_hold A Z Z1) (hr.mono (by omega)) rfl A.law_hold.m A.law_hold.F.kp A.law_hold.b .nil pass0 (pa_cons pe_str (pa_cons (pe_call (ok_law_with A) (hr.mono (by omega)) rfl A.law_with.m A.law_with.F.kp A.law_with.b .nil pass0 (pa_cons (pv 1) (pa_cons (pe_disp (pps_cons pe_int (pe_ix ix_list (pv 1) (pe_ix ix_tup (pe_ix ix_list (pv 16) (pe_op op_sub (pe_callB call_len_seq (by rfl) A.T.len PySem.boot_len (pa_cons (pv 16) pa_nil)) pe_int) (fun _ _ => rfl)) pe_int (fun _ _ => rfl)) (fun _ _ => rfl)) pps_nil) (by rfl) (by rfl) (fun z => by cases z) (by decide)) pa_nil))) (pa_cons (pe_callTy call_list_of (by rfl) A.T.list (by decide +kernel) (pa_cons (pe_ix ix_list (pv 11) pe_int (fun _ _ => rfl)) pa_nil)) (pa_cons (pe_lst (pa_cons (pv 15) pa_nil)) pa_nil))))) pe_int (fun _ _ => rfl)))))
    pss_nil)
  (pss_one (ps_ret (pe_cmpR (op_eqD hr.units) (pe_call (ok_law_hold A Z Z1) (hr.mono (by omega)) rfl A.law_hold.m A.law_hold.F.kp A.law_hold.b .nil pass0 (pa_cons pe_str (pa_cons (pv 7) (pa_cons (pe_callTy call_list_of (by rfl) A.T.list (by decide +kernel) (pa_cons (pe_ix ix_list (pv 11) pe_int (fun _ _ => rfl)) pa_nil)) (pa_cons (pe_lst (pa_cons (pv 13) (pa_cons (pv 15) pa_nil))) pa_nil))))) (pe_lst (pa_cons pe_bl (pa_cons pe_bl pa_nil))) (nomark _)))))))))))))))))))), ?_⟩
    have ls : l ≠ st := str_nl hst hl
    walk_at "rd"
    rw [nVl_ln]
    intro D nD
    have aD : Adv [] H (upd H D (.dK [])) := Adv.new nD
    have Ds : D ≠ st := fun z => hst.here (by rw [← z]; exact nD)
    walk_at "rd"
    refine ⟨by decide, by decide, ?_⟩
    refine for_range (lo := 0) (n := (8 : Int).toNat) (fun i σ' H' => ∃ f y4 y5 y6, σ' = [some (.ref st), some (.ref l), some (.int (ss.length : Nat)), some (.ref D), y4, y5, y6, none, none, none, none, none, none, none, none, none, none, none] ∧ LtK H' D f i ∧ (∀ j m, f j = some m → m < 2 ^ ss.length) ∧ (∀ j, j < i → f j ≠ none) ∧ StrAt (D :: [st]) H' st ∧ Adv [st] H H')
      ⟨fun _ => none, _, _, _, rfl, ⟨[], upd_same, Nat.le_refl _, fun i => rfl⟩, by simp, by simp, (hst.fresh nD).same aD, aD.nil⟩ ?_ ?_
    · rintro i σ' H1 hi ⟨f, y4, y5, y6, rfl, hf, fb, fn, hs, a⟩
      have hl1 := a _ _ (notin1 ls) hl
      refine rd_gname ?_
      refine rd_seq ?_
      refine rd_asg ?_
      refine bits_dn rfl rfl hs (by omega) (fun m H2 hm hs2 a2 => ?_)
      have hl2 := a2 _ _ (notin1 ls) hl1
      have hf2 := hf.adv a2 (notin1 Ds)
      have a02 := a.trans a2
      walk_at "rd"
      unfold iList
      walk_at "rd"
      rw [Int.zero_add]
      refine ⟨m, ss.length, rfl, by omega, fun B H3 nB hB a3 => ?_⟩
      have hs3 := hs2.same a3
      have hf3 := hf2.adv a3 (by simp)
      have hl3 := a3.same _ _ hl2
      have bl := bitsL_len ss.length m
      refine ⟨B, rfl, ⟨_, SqL.of hB⟩, ?_⟩
      refine for_list (a := B) (xs := nVl (bitsL ss.length m)) (fun j σ' H' => H3 = H' ∧ ∃ (m' : Nat) (y6 : Option V), σ' = [some (.ref st), some (.ref l), some (.int (ss.length : Nat)), some (.ref D), some (.int (i : Nat)), some (.int (m' : Nat)), y6, none, none, none, none, none, none, none, none, none, none, none] ∧ m' < 2 ^ ss.length)
        ⟨rfl, m, _, rfl, hm⟩ ?_ ?_ ?_
      · rintro j σ' H' hj ⟨rfl, _⟩
        exact SqL.of hB
      · rintro j xv σ' H' hx ⟨rfl, m', y6, rfl, hm'⟩
        obtain ⟨v, hv, rfl⟩ := nVl_gt hx
        have hvn := (bitsL_mem.mp (List.mem_of_getElem? hv)).1
        have g1 := nVl_get? (l := ss) (i := v) hvn
        walk_at "rd"
        rw [bor]
        first | exact ⟨rfl, _, _, rfl, Nat.or_lt_two_pow hm' (sA_lt hlt v)⟩ | exact ⟨_, _, rfl, Nat.or_lt_two_pow hm' (sA_lt hlt v)⟩
      · rintro σ' H' ⟨rfl, m', y6, rfl, hm'⟩
        have i8 : i < 8 := hi
        obtain ⟨H4, o, hput, rfl, hf4⟩ := hf3.put (by omega) i m'
        refine ⟨_, rfl, _, rfl, _, rfl, D, _, rfl, hput, ?_⟩
        refine ⟨_, _, _, _, rfl, hf4, fun j m2 hj => ?_, fun j hj => ?_, hs3.adv (N := [D]) (Adv.set (by simp)) (notin1 Ds.symm) (by simp), (a02.trans a3.nil).mut nD⟩
        · by_cases c : j = i
          · rw [if_pos c] at hj
            injection hj with hj
            omega
          · rw [if_neg c] at hj
            exact fb j m2 hj
        · by_cases c : j = i
          · rw [if_pos c]; simp
          · rw [if_neg c]; exact fn j (by omega)
    rintro σ' H1 ⟨f, y4, y5, y6, rfl, hf, fb, fn, hs, a⟩
    have hf : LtK H1 D f 8 := hf
    have fn : ∀ j, j < 8 → f j ≠ none := fn
    walk_at "rd"
    refine ⟨fun σ' H' => ∃ f y4 y5 y6, σ' = [some (.ref st), some (.ref l), some (.int (ss.length : Nat)), some (.ref D), y4, y5, y6, none, none, none, none, none, none, none, none, none, none, none] ∧ LtK H' D f 10 ∧ (∀ j m, f j = some m → m < 2 ^ ss.length) ∧ StrAt (D :: [st]) H' st ∧ Adv [st] H H', ?_, ?_⟩
    · walk_at "rd"
      refine ⟨st, 2, D :: [st], rfl, hs, by decide, by decide, fun d H2 d0 d1 hs2 a2 => ?_⟩
      have hf2 := hf.adv a2 (notin1 Ds)
      walk_at "rd"
      refine iteB (fun e => ?_) (fun e => ?_)
      · walk_at "rd"
        refine ⟨st, 8, D :: [st], rfl, hs2, by decide, by decide, fun d3 H3 e0 e1 hs3 a3 => ?_⟩
        obtain ⟨i, rfl⟩ : ∃ j : Nat, d3 = (j : Int) := ⟨d3.toNat, by omega⟩
        have hf3 := hf2.adv a3 (notin1 Ds)
        walk_at "rd"
        obtain ⟨m, em⟩ : ∃ m, f i = some m := by
          cases c : f i with
          | none => exact absurd c (fn i (by omega))
          | some m => exact ⟨m, rfl⟩
        have hg := (hf3.ltd (by decide)).get i
        rw [em] at hg
        refine ⟨_, rfl, _, rfl, D, .int (m : Nat), rfl, hg, ?_⟩
        walk_at "rd"
        refine ⟨st, (ss.length : Nat), D :: [st], rfl, hs3, by omega, by omega, fun d4 H4 f0 f1 hs4 a4 => ?_⟩
        obtain ⟨t, rfl⟩ : ∃ j : Nat, d4 = (j : Int) := ⟨d4.toNat, by omega⟩
        have hf4 := hf3.adv a4 (notin1 Ds)
        walk_at "rd"
        refine rd_shl1 (by omega) ?_
        walk_at "rd"
        rw [bxor]
        obtain ⟨H5, o, hput, rfl, hf5⟩ := hf4.put (by omega) i (m ^^^ 2 ^ t)
        refine ⟨D, _, rfl, hput, ?_⟩
        obtain ⟨kvs, k1, k2, k3⟩ := hf5
        refine ⟨_, _, _, _, rfl, ⟨kvs, k1, by omega, k3⟩, fun j m2 hj => ?_, hs4.adv (N := [D]) (Adv.set (by simp)) (notin1 Ds.symm) (by simp), (((a.trans a2).trans a3).trans a4).mut nD⟩
        by_cases c : j = i
        · rw [if_pos c] at hj
          injection hj with hj
          rw [← hj]
          exact Nat.xor_lt_two_pow (fb i m em) (pw_lt (by omega))
        · rw [if_neg c] at hj
          exact fb j m2 hj
      · walk_at "rd"
        obtain ⟨kvs, k1, k2, k3⟩ := hf2
        exact ⟨f, _, _, _, rfl, ⟨kvs, k1, by omega, k3⟩, fb, hs2, a.trans a2⟩
    rintro σ' H2 ⟨f, y4, y5, y6, rfl, hf, fb, hs, a⟩
    walk_at "rd"
    have RR : RtM ss (LF f) := ⟨n1, by omega, hlt, fun j => by
      unfold LF
      cases c : f j with
      | none => exact Nat.two_pow_pos _
      | some m => exact fb j m c⟩
    have hl2 := a _ _ (notin1 ls) hl
    have al2 : ∀ b ∈ [st], H2 b ≠ none := fun b hb => by rw [List.mem_singleton.mp hb]; exact hs.here
    refine ⟨⟨[st], l, D, ss, f, rfl, al2, hl2, RR, hf.ltd (by decide), fun mo H3 hmo a3 => ?_⟩⟩
    generalize LF f = L at RR hmo
    have hs3 := hs.same a3
    walk_at "rd"
    refine ⟨⟨_, mo, ss, L, rfl, by decide, by decide, RR, hmo.less (by simp), fun H4 a4 => ?_⟩⟩
    rw [right_s4]
    have hmo4 := hmo.adv (a4.more (by simp))
    have hs4 := hs3.same a4
    have a04 : Adv [st] H H4 := a.trans (a3.trans a4).nil
    have hl4 := (a3.trans a4).same _ _ hl2
    walk_at "rd"
    refine ⟨by decide, by decide, ?_⟩
    refine for_range (lo := 0) (n := (8 : Int).toNat) (fun i σ' H' => ∃ y4 y9 y10, σ' = [some (.ref st), some (.ref l), some (.int (ss.length : Nat)), some (.ref D), y4, y5, y6, some mo, some (.bl (propB "s4" ss && ((List.range i).all fun j => decide (schP ss (L j) = every ss.length)))), y9, y10, none, none, none, none, none, none, none] ∧ Adv [] H4 H')
      ⟨_, _, _, by rw [List.range_zero, List.all_nil, Bool.and_true]; rfl, Adv.refl _ _⟩ ?_ ?_
    · rintro i σ' H5 hi ⟨y4, y9, y10, rfl, a5⟩
      have i8 : i < 8 := hi
      have hs5 := hs4.same a5
      have hmo5 := hmo4.adv (a5.more (by simp))
      rw [Int.zero_add]
      walk_at "rd"
      have al5 : ∀ b ∈ [st], H5 b ≠ none := fun b hb => by rw [List.mem_singleton.mp hb]; exact hs5.here
      refine ⟨⟨[], i, rfl, by simp, i8, fun p sh rs u H6 hp hsh _ hrs hu _ a6 => ?_⟩⟩
      walk_at "rd"
      refine rd_gtup (SqT.of hp) rfl ?_
      walk_at "rd"
      have er : (propB "s4" ss && ((List.range (i + 1)).all fun j => decide (schP ss (L j) = every ss.length))) = ((propB "s4" ss && ((List.range i).all fun j => decide (schP ss (L j) = every ss.length))) && decide (schP ss (L i) = every ss.length)) := by
        rw [List.range_succ, List.all_append, Bool.and_assoc]
        simp
      rw [er]
      cases c : (propB "s4" ss && ((List.range i).all fun j => decide (schP ss (L j) = every ss.length))) with
      | false =>
        refine iteN rfl ?_
        walk_at "rd"
        exact ⟨_, _, _, rfl, a5.trans a6⟩
      | true =>
        refine iteY rfl ?_
        walk_at "rd"
        intro cp ncp
        have acp : Adv [] H6 (upd H6 cp (.lst rs)) := Adv.new ncp
        walk_at "rd"
        refine ⟨⟨"k", mo, cp, u, rs, ss, _, schN i, [3, 5, 7, 12, 13], rfl, by decide, by decide, word_k, RR, (hmo5.less (by simp)).adv (a6.trans acp), upd_same, hrs.adv acp, ⟨sch_nd i, sch_okn (by omega)⟩, by show 14 ≤ 5000; decide, .inr (Tp.of (acp.same _ _ hu) (by simp)), by decide, fun r hr => ?_, fun hd H12 nhd hhd a12 => ?_⟩⟩
        · show r < 14
          simp at hr
          omega
        have hhd : H12 hd = some (.lst ([.bl (okT ss (L i)), .bl (ok4 ss (L i)), .bl (okL ss (L i)), .bl (decide (schK ss (L i) (L (otherI i)) = every ss.length)), .bl (decide (schP ss (L i) = every ss.length))])) := by
          have e0 : decide (("k" : Str) = "intuit") = false := by decide
          rw [hhd, e0, sch_tm]
          rfl
        refine ⟨hd, _, 4, _, rfl, rfl, SqL.of hhd, atI_nat (j := 4) rfl, ?_⟩
        walk_at "rd"
        exact ⟨_, _, _, rfl, ((a5.trans a6).trans acp).trans a12⟩
    rintro σ' H5 ⟨y4, y9, y10, rfl, a5⟩
    rw [show (8 : Int).toNat = 8 from rfl, ← keptB_all RR.ll]
    have eR : (propB "s4" ss && keptB ss L) = rightB "intuit" ss L := by
      unfold rightB
      rw [decide_eq_true rfl]
      rfl
    rw [eR]
    have hs5 := hs4.same a5
    have hmo5 := hmo4.adv (a5.more (by simp))
    walk_at "rd"
    refine ⟨⟨"intuit", mo, ss, L, rfl, by decide, by decide, RR, hmo5.less (by simp), fun H6 a6 => ?_⟩⟩
    walk_at "rd"
    rw [← right_word]
    refine ⟨_, _, .bool _, rfl, Is.bl, Is.bl, sz_bl _, fun H7 a7 => ?_⟩
    have hmo7 := hmo5.adv ((a6.trans a7).more (by simp))
    refine ⟨_, rfl, iteN rfl ?_⟩
    walk_at "rd"
    refine ⟨⟨"intuit", mo, ss, L, rfl, by decide, by decide, RR, hmo7.less (by simp), fun H8 a8 => ?_⟩⟩
    have hmo8 := hmo7.adv (a8.more (by simp))
    have a58 := (a6.trans a7).trans a8
    have hs8 := hs5.same a58
    have hl8 := (a5.trans a58).same _ _ hl4
    have a08 : Adv [st] H H8 := a04.trans (a5.trans a58).nil
    walk_at "rd"
    refine iteN (by simp) ?_
    walk_at "rd"
    have hs8 : StrAt [st] H8 st := hs8.less (by simp)
    cases eK : rightB "intuit" ss L with
    | false =>
      refine iteY rfl ?_
      walk_at "rd"
      exact q H8 hs8 a08
    | true =>
      refine iteN rfl ?_
      have eP : propB "s4" ss = true ∧ keptB ss L = true := by
        rw [← eR, Bool.and_eq_true] at eK
        exact eK
      have eRT : Rfx ss ∧ Trn ss := by
        have := eP.1
        rw [prop_s4 hlt, Bool.and_eq_true] at this
        exact ⟨refT_iff.mp this.1, (ref4_iff hlt).mp this.2⟩
      have al8 : ∀ b ∈ [st], H8 b ≠ none := fun b hb => by rw [List.mem_singleton.mp hb]; exact hs8.here
      walk_at "rd"
      refine ⟨Nat.zero_le _, fun b0 n0 => ?_⟩
      walk_at "rd"
      intro b1 nb1
      walk_at "rd"
      refine ⟨by show 2 ≤ sizeLine; decide, fun bk nk => ?_⟩
      have D0 := Dw.new (bx := false) hs8 (by simp) al8 n0 nb1 nk
      have aB : Adv [] H8 _ := ((Adv.new (o := .lst []) n0).newT (o := dxo b1 []) nb1).newT (o := .lst [.ref b0, .ref b1]) nk
      have nb1' : H8 b1 = none := (Adv.new (M := []) n0).free (by simp) nb1
      generalize upd (upd (upd H8 b0 (.lst [])) b1 (dxo b1 [])) bk (.lst [.ref b0, .ref b1]) = H9 at D0 aB
      walk_at "rd"
      refine ⟨st, 5, _, rfl, D0.str, by decide, by decide, fun c H10 c0 c1 hs10 a10 => ?_⟩
      have D1 := D0.next a10 hs10
      walk_at "rd"
      refine ⟨⟨_, st, bk, b0, b1, false, [], 8, c, rfl, D1, by decide, by decide, c0, by omega, by decide, by simp; omega, fun r ns1 H11 x1 => ?_⟩⟩
      have xl1 : ns1.length ≤ 0 + (2 * c.toNat + 3) := x1.le
      have xt1 := x1.lt
      have E1 := x1.D
      have h1 := deny_len ns1 r
      have h1t := deny_lt ns1 r
      have h1p := (deny_pre ns1 r).length_le
      have h1n := deny_not ns1 r
      walk_at "rd"
      refine ⟨_, bk, b0, b1, ns1, r, rfl, E1.hbk, E1.kM, E1.B, by omega, fun H12 B12 a12 => ?_⟩
      have E2 := deny_dw E1 xt1 a12 B12
      have pr2 : ns1 <+: (denyF ns1 r).2 := deny_pre ns1 r
      generalize (denyF ns1 r).2 = ns2 at h1 h1t h1p h1n E2 pr2
      generalize (denyF ns1 r).1 = q2 at h1t h1n
      walk_at "rd"
      refine ⟨by show 3 ≤ sizeLine; decide, fun t2 nt2 => ?_⟩
      walk_at "rd"
      refine row_dw (.bin .or r q2) E2 nt2 (by simp only [Nd.ok, Bool.and_eq_true, decide_eq_true_eq]; omega) (by omega) (fun H13 E3 a13 => ?_)
      have e3 : EmR (rowF ns2 (.bin .or r q2)).2 r (rowF ns2 (.bin .or r q2)).1 := ⟨q2, rowF_at _ _, h1n.mono (rowF_pre _ _)⟩
      have h3 := row_len ns2 (.bin .or r q2)
      have h3t := rowF_lt ns2 (.bin .or r q2)
      have h3p := (rowF_pre ns2 (.bin .or r q2)).length_le
      generalize (rowF ns2 (.bin .or r q2)).2 = ns3 at h3 h3t h3p e3 E3
      generalize (rowF ns2 (.bin .or r q2)).1 = mid at h3t e3
      walk_at "rd"
      refine ⟨by show 2 ≤ sizeLine; decide, fun t3 nt3 => ?_⟩
      walk_at "rd"
      refine row_dw (.letter 0) E3 nt3 rfl (by omega) (fun H14 E4 a14 => ?_)
      have e4 := e3.mono (rowF_pre ns3 (.letter 0))
      have o4 := rowF_at ns3 (.letter 0)
      have h4 := row_len ns3 (.letter 0)
      have h4t := rowF_lt ns3 (.letter 0)
      have h4p := (rowF_pre ns3 (.letter 0)).length_le
      generalize (rowF ns3 (.letter 0)).2 = ns4 at h4 h4t h4p e4 E4 o4
      generalize (rowF ns3 (.letter 0)).1 = on at h4t o4
      walk_at "rd"
      refine ⟨_, bk, b0, b1, ns4, on, rfl, E4.hbk, E4.kM, E4.B, by omega, fun H15 B15 a15 => ?_⟩
      have E5 := deny_dw E4 h4t a15 B15
      have h5 := deny_len ns4 on
      have h5t := deny_lt ns4 on
      have h5p := (deny_pre ns4 on).length_le
      have h5n := deny_not ns4 on
      have e5 := e4.mono (deny_pre ns4 on)
      have o5 := pre_at (deny_pre ns4 on) o4
      generalize (denyF ns4 on).2 = ns5 at h5 h5t h5p h5n E5 e5 o5
      generalize (denyF ns4 on).1 = q5 at h5t h5n
      walk_at "rd"
      refine ⟨by show 3 ≤ sizeLine; decide, fun t5 nt5 => ?_⟩
      walk_at "rd"
      refine row_dw (.bin .or on q5) E5 nt5 (by simp only [Nd.ok, Bool.and_eq_true, decide_eq_true_eq]; omega) (by omega) (fun H16 E6 a16 => ?_)
      have s6 : EmR (rowF ns5 (.bin .or on q5)).2 on (rowF ns5 (.bin .or on q5)).1 := ⟨q5, rowF_at _ _, h5n.mono (rowF_pre _ _)⟩
      have e6 := e5.mono (rowF_pre ns5 (.bin .or on q5))
      have o6 := pre_at (rowF_pre ns5 (.bin .or on q5)) o5
      have h6 := row_len ns5 (.bin .or on q5)
      have h6t := rowF_lt ns5 (.bin .or on q5)
      have h6p := (rowF_pre ns5 (.bin .or on q5)).length_le
      generalize (rowF ns5 (.bin .or on q5)).2 = ns6 at h6 h6t h6p e6 s6 o6 E6
      generalize (rowF ns5 (.bin .or on q5)).1 = sing at h6t s6
      have midt : mid < ns6.length := by omega
      have a916 : Adv [st, b0, b1] H9 H16 := ((((((a_s a10).trans x1.a).trans (a_b a12)).trans a13).trans a14).trans (a_b a15)).trans a16
      have a816 : Adv [st] H8 H16 := fun b o hb e => a916 b o (by
        have e1 := ne_of_none e n0
        have e2 := ne_of_none e nb1'
        have e3 : b ≠ st := fun z => hb (by rw [z]; simp)
        simp [e1, e2, e3]) (aB.same _ _ e)
      have hl16 := a816 _ _ (notin1 ls) hl8
      have hmo16 := hmo8.adv a816
      have hs16 : StrAt [st] H16 st := E6.str.less (by simp)
      have a016 := a08.trans a816
      obtain ⟨rs, hb0, hrs⟩ := E6.B.rows
      have hbk16 := E6.hbk
      walk_at "rd"
      unfold tLc iList
      walk_at "rd"
      refine ⟨⟨[], l, ss, rfl, by simp, hl16, by omega, hlt, fun va H17 hva a17 => ?_⟩⟩
      obtain ⟨la, prs, rfl, _, hla, hps⟩ := hva.lstE
      have hlen := hps.len
      rw [List.length_map] at hlen
      have za := arcs_z (ss := ss) (by omega)
      have hl17 := a17.same _ _ hl16
      refine ⟨la, rfl, ⟨_, SqL.of hla⟩, fun W nW => ?_⟩
      refine lc_list (K := K) (a := la) (xs := prs) (fun k H' => Adv [] H17 H' ∧ ∃ ys, H' W = some (.lst ys) ∧ IsDs [W] H' ((((arcsF ss).take k).filter fun a => !(sA ss a.2).testBit a.1).map pD) ys) ⟨Adv.new nW, [], upd_same, IsDs.nil⟩ (fun k H' _ p => SqL.of (p.1.same _ _ hla)) (fun k xv H' hx p => ?_) (fun H18 p => ?_)
      · obtain ⟨a3, ys, hys, hyd⟩ := p
        obtain ⟨⟨v, w⟩, t, ha, rfl, ht⟩ := prs_at (hps.adv a3) hx
        obtain ⟨g1, g2⟩ := arcs_lt ss (v, w) (List.mem_of_getElem? ha)
        have g1 : v < ss.length := g1
        have g2 : w < ss.length := g2
        have hl18 := a3.same _ _ hl17
        have e2 := nVl_get? (l := ss) g2
        have il : k < prs.length := (List.getElem?_eq_some_iff.mp hx).1
        have hyl := hyd.len
        rw [List.length_map] at hyl
        have hyl2 := List.length_filter_le (fun a : Nat × Nat => !(sA ss a.2).testBit a.1) ((arcsF ss).take k)
        rw [List.length_take] at hyl2
        have et : ((arcsF ss).take (k + 1)).filter (fun a => !(sA ss a.2).testBit a.1) = ((arcsF ss).take k).filter (fun a => !(sA ss a.2).testBit a.1) ++ (if (!(sA ss w).testBit v) = true then [(v, w)] else []) := by
          rw [take_snc ha, List.filter_append, List.filter_cons]
          rfl
        have ht : Tp [] H' t [.int (v : Nat), .int (w : Nat)] := ht
        refine rd_gtup (ht.sq A.W) rfl ?_
        walk_at "rd"
        refine ⟨rfl, ?_⟩
        walk_at "rd"
        refine rd_shl1 (by omega) (rd_band ?_)
        walk_at "rd"
        rw [and_pow]
        refine iteB (fun e => ?_) (fun e => ?_)
        · rw [if_pos e] at et
          walk_at "rd"
          refine ⟨by show 2 ≤ sizeLine; decide, fun t2 nt2 => ?_⟩
          have at_ : Adv [] H' (upd H' t2 (.tup [.int (v : Nat), .int (w : Nat)])) := Adv.new nt2
          have nDt : t2 ≠ W := fun z => by rw [z, hys] at nt2; cases nt2
          refine ⟨ys, at_.same _ _ hys, by rw [sizeLine_eq]; omega, (a3.trans at_).mut nW, _, upd_same, ?_⟩
          rw [et, List.map_append]
          have stp : Adv [W] (upd H' t2 (.tup [.int (v : Nat), .int (w : Nat)])) (upd (upd H' t2 (.tup [.int (v : Nat), .int (w : Nat)])) W (.lst (ys ++ [.ref t2]))) := Adv.set (by simp)
          have it : Is [W] (upd H' t2 (.tup [.int (v : Nat), .int (w : Nat)])) (pD (v, w)) (.ref t2) := Is.tup upd_same (by simp [nDt]) (.cons Is.int (IsDs.one Is.int))
          exact ((hyd.adv (at_.more (by simp))).adv stp).app (IsDs.one (it.adv stp))
        · rw [if_neg (by rw [e]; decide), List.append_nil] at et
          exact ⟨a3, ys, hys, by rw [et]; exact hyd⟩
      · obtain ⟨a18, ys, hys, hyd⟩ := p
        rw [hlen, List.take_length] at hyd
        have hyd : IsDs [W] H18 ((waysF ss).map pD) ys := hyd
        have hyl := hyd.len
        rw [List.length_map] at hyl
        have lB : logicB "intuit" = false := by decide
        have okB : okSheet (logicB "intuit") ns6 := by rw [lB]; exact E6.ok
        have eI : decide (("intuit" : Str) = "intuit") = true := by decide
        have hl18 := a18.same _ _ hl17
        have a1618 : Adv [] H16 H18 := a17.trans a18
        have hbk18 := a1618.same _ _ hbk16
        have hb018 := a1618.same _ _ hb0
        have hrs18 := (hrs.adv (a1618.more (by simp))).less (N := []) (by simp)
        have hmo18 := hmo16.adv (a1618.more (by simp))
        walk_at "rd"
        rcases List.eq_nil_or_concat (waysF ss) with eW | ⟨L', ⟨v, w⟩, eW⟩
        · rw [eW] at hyl
          refine iteN (by rw [hyl]; rfl) ?_
          walk_at "rd"
          intro cp ncp
          have acp : Adv [] H18 (upd H18 cp (.lst rs)) := Adv.new ncp
          walk_at "rd"
          refine ⟨by show 2 ≤ sizeLine; decide, fun sl nsl => ?_⟩
          have asl : Adv [] (upd H18 cp (.lst rs)) (upd (upd H18 cp (.lst rs)) sl (.lst [.int (mid : Nat), .int (sing : Nat)])) := Adv.new nsl
          have wdI : wordF "intuit" ss L = none := by
            have := eK
            rw [right_word] at this
            exact of_decide_eq_true this
          have hP := (keptB_iff RR.ll).mp eP.2
          have pall := pers_all hlt eRT.2 RR.ll hP ns6 E6.ok.2
          have emid : sA (tmF true ss L ns6) mid = every ss.length := by
            rw [em_row' E6.ok e6]
            exact em_all hlt (ways_nil eW) (pers_sA hlt eRT.2 pall r).1 (pers_sA hlt eRT.2 pall r).2
          have esing : sA (tmF true ss L ns6) sing = every ss.length := by
            rw [em_row' E6.ok s6]
            exact em_all hlt (ways_nil eW) (pers_sA hlt eRT.2 pall on).1 (pers_sA hlt eRT.2 pall on).2
          walk_at "rd"
          refine ⟨⟨"intuit", mo, cp, sl, rs, ss, L, ns6, [mid, sing], rfl, by decide, by decide, wdI, RR, (hmo18.less (by simp)).adv (acp.trans asl), asl.same _ _ upd_same, hrs18.adv (acp.trans asl), okB, by omega, .inl upd_same, by simp, fun y hy => ?_, fun hd H20 nhd hhd a20 => ?_⟩⟩
          · simp at hy
            omega
          rw [eI] at hhd
          have hhd : H20 hd = some (.lst [.bl (decide (sA (tmF true ss L ns6) mid = every ss.length)), .bl (decide (sA (tmF true ss L ns6) sing = every ss.length))]) := hhd
          rw [decide_eq_true emid, decide_eq_true esing] at hhd
          walk_at "rd"
          refine ⟨by show 2 ≤ sizeLine; decide, fun e1 ne1 => ?_⟩
          have ae1 : Adv [] H20 (upd H20 e1 (.lst [.bl true, .bl true])) := Adv.new ne1
          refine ⟨_, _, dp2 (ae1.same _ _ hhd), dp2 upd_same, shp2 _ _, shp2 _ _, ?_⟩
          rw [eqv2]
          have aE : Adv [] H16 (upd H20 e1 (.lst [.bl true, .bl true])) := (((a1618.trans acp).trans asl).trans a20).trans ae1
          exact q _ (hs16.same aE) (a016.trans aE.nil)
        · rw [List.concat_eq_append] at eW
          obtain ⟨hv, hw, hvw, hnw⟩ := ways_mem (show (v, w) ∈ waysF ss by rw [eW]; simp)
          rw [eW] at hyd hyl
          rw [List.map_append] at hyd
          obtain ⟨ws, x, rfl, hws, hx⟩ := IsDs.last (d := pD (v, w)) hyd
          obtain ⟨t, rfl, ht⟩ := pair_is hx
          have ht : Tp [W] H18 t [.int (v : Nat), .int (w : Nat)] := ht
          rw [List.length_append, List.length_append] at hyl
          refine iteY (by simp) ?_
          walk_at "rd"
          unfold tDisp tPairs
          walk_at "rd"
          intro dd ndd
          walk_at "rd"
          have add : Adv [] H18 (upd H18 dd (.dK [])) := Adv.new ndd
          have gw := nVl_get? (l := ss) hw
          have hysd := add.same _ _ hys
          have hld := add.same _ _ hl18
          have eix : atI (ws ++ [V.ref t]) (((ws ++ [V.ref t]).length : Int) - 1) = some (.ref t) := by
            have e : ((ws ++ [V.ref t]).length : Int) - 1 = ((ws.length : Nat) : Int) := by rw [List.length_append]; simp
            rw [e]
            exact atI_nat (by rw [List.getElem?_append_right (Nat.le_refl _), Nat.sub_self]; rfl)
          refine ⟨W, _, _, _, rfl, rfl, SqL.of hysd, eix, ?_⟩
          have sqt := ((ht.less (N := []) (by simp)).adv add).sq A.W
          walk_at "rd"
          refine ⟨upd_same, [(Sum.inl ((0 : Nat) : Int), V.int (sA ss w : Nat))], rfl, by show 1 ≤ 15; decide, ?_⟩
          have hLD : LtD (upd (upd H18 dd (.dK [])) dd (.dK (mergeK [] [(Sum.inl ((0 : Nat) : Int), V.int (sA ss w : Nat))]))) dd (fun j => if j = 0 then some (sA ss w) else none) := ⟨_, upd_same, Nat.le_trans (length_mergeK _ _) (by show 0 + 1 ≤ 100; decide), fun j => by
            show valV (putK [] (Sum.inl ((0 : Nat) : Int)) (V.int (sA ss w : Nat))) (Sum.inl ((j : Nat) : Int)) = Option.map (fun k : Nat => V.int (k : Nat)) (if j = 0 then some (sA ss w) else none)
            rw [valV_put]
            by_cases h1 : j = 0
            · rw [if_pos (inl_nat.mpr h1), if_pos h1]; rfl
            · rw [if_neg (fun z => h1 (inl_nat.mp z)), if_neg h1]; rfl⟩
          have aLD : Adv [] H18 (upd (upd H18 dd (.dK [])) dd (.dK (mergeK [] [(Sum.inl ((0 : Nat) : Int), V.int (sA ss w : Nat))]))) := add.mut ndd
          generalize upd (upd H18 dd (.dK [])) dd (.dK (mergeK [] [(Sum.inl ((0 : Nat) : Int), V.int (sA ss w : Nat))])) = H19 at hLD aLD
          have L1 : ∀ j, LF (fun j => if j = 0 then some (sA ss w) else none) j = if j = 0 then sA ss w else 0 := fun j => by
            show (if j = 0 then some (sA ss w) else none).getD 0 = _
            by_cases h1 : j = 0
            · rw [if_pos h1, if_pos h1]; rfl
            · rw [if_neg h1, if_neg h1]; rfl
          have RR1 : RtM ss (LF fun j => if j = 0 then some (sA ss w) else none) := ⟨n1, by omega, hlt, fun j => by
            rw [L1]
            split
            · exact sA_lt hlt w
            · exact Nat.two_pow_pos _⟩
          have wd1 : wordF "intuit" ss (LF fun j => if j = 0 then some (sA ss w) else none) = none := by
            have k1 : keptB ss (LF fun j => if j = 0 then some (sA ss w) else none) = true := (keptB_iff RR1.ll).mpr fun j _ => by
              rw [L1]
              split
              · exact pers_see hlt eRT.2 w hw
              · exact pers_0
            unfold wordF
            rw [prop_intu, eP.1, if_neg (by decide), k1]
            simp
          have eL0 : LF (fun j => if j = 0 then some (sA ss w) else none) 0 = sA ss w := by rw [L1, if_pos rfl]
          walk_at "rd"
          refine ⟨⟨[], l, dd, ss, _, rfl, by simp, aLD.same _ _ hl18, RR1, hLD, fun mv H20 hmv a20 => ?_⟩⟩
          generalize LF (fun j => if j = 0 then some (sA ss w) else none) = LL1 at RR1 wd1 eL0 hmv
          have a1820 := aLD.trans a20
          have hbk20 := a1820.same _ _ hbk18
          have hb020 := a1820.same _ _ hb018
          have hrs20 := hrs18.adv a1820
          walk_at "rd"
          intro cp ncp
          have acp : Adv [] H20 (upd H20 cp (.lst rs)) := Adv.new ncp
          walk_at "rd"
          refine ⟨by show 1 ≤ sizeLine; decide, fun sl nsl => ?_⟩
          have asl : Adv [] (upd H20 cp (.lst rs)) (upd (upd H20 cp (.lst rs)) sl (.lst [.int (sing : Nat)])) := Adv.new nsl
          have esing : sA (tmF true ss LL1 ns6) sing ≠ every ss.length := by
            rw [em_row' E6.ok s6, letter_row o6, eL0]
            exact em_no hlt eRT.1 hv hw hvw hnw
          walk_at "rd"
          refine ⟨⟨"intuit", mv, cp, sl, rs, ss, LL1, ns6, [sing], rfl, by decide, by decide, wd1, RR1, hmv.adv (acp.trans asl), asl.same _ _ upd_same, hrs20.adv (acp.trans asl), okB, by omega, .inl upd_same, by simp, fun y hy => ?_, fun hd H22 nhd hhd a22 => ?_⟩⟩
          · simp at hy
            omega
          rw [eI] at hhd
          have hhd : H22 hd = some (.lst [.bl (decide (sA (tmF true ss LL1 ns6) sing = every ss.length))]) := hhd
          rw [decide_eq_false esing] at hhd
          have aE : Adv [] H16 H22 := (((a1618.trans a1820).trans acp).trans asl).trans a22
          walk_at "rd"
          first
            | exact q _ (hs16.same aE) (a016.trans aE.nil)
            | exact ⟨_, rfl, q _ (hs16.same aE) (a016.trans aE.nil)⟩
end
end K10

set_option Elab.async false
set_option linter.all false
set_option maxRecDepth 100000
set_option maxHeartbeats 4000000
namespace K10
open PySem PySem.Spec PyProof.Rows L2 LL
open C8 (pss_cut)
local macro_rules | `(tactic| walk_at "ne") => `(tactic| first | assumption | (apply Ne.symm; assumption) | exact ne_of_none (by walk_at "hp") (by assumption) | exact (ne_of_none (by walk_at "hp") (by assumption)).symm)
local macro_rules | `(tactic| walk_at "nm") => `(tactic| first | assumption | exact notin0 | exact notin1 (by walk_at "ne") | exact notin2 (by walk_at "ne") (by walk_at "ne"))
local macro_rules | `(tactic| walk_at "hp") => `(tactic| first | assumption | exact upd_same | (refine Eq.trans (upd_ne ?ne) ?hh; (case hh => walk_at "hp"); (case ne => walk_at "ne")) | (refine Adv.get' (by assumption) ?hh ?nn; (case hh => walk_at "hp"); (case nn => walk_at "nm")))
local macro_rules | `(tactic| walk_at "tp") => `(tactic| first | assumption | exact Tp.adv (by walk_at "tp") (by assumption) | exact Tp.adv (by walk_at "tp") (Adv.nil (by assumption)))
local macro_rules | `(tactic| walk_at "sq") => `(tactic| first | assumption | exact Tp.sq (by assumption) (by walk_at "tp") | exact SqT.of (by walk_at "hp"))
local macro_rules | `(tactic| walk_at "at") => `(tactic| first | exact atI_nat (j := 0) rfl | exact atI_nat (j := 1) rfl | exact atI_nat (j := 2) rfl | exact atI_nat (j := 3) rfl | exact atI_nat (by assumption) | (rw [Int.zero_add]; exact atI_nat (by assumption)))
local macro_rules | `(tactic| walk_at "bb") => `(tactic| first | assumption | decide | exact rfl)
local macro_rules | `(tactic| walk_at "ci") => `(tactic| first | omega | (dsimp only; omega) | (unfold CDiv; omega) | (unfold CMul; omega))
local macro_rules | `(tactic| walk_at "rd1") => `(tactic| first
  | with_reducible refine rd_c ?_
  | ((with_reducible refine' rd_var ?rh ?_); (case rh => exact rfl))
  | with_reducible refine rd_op ?_
  | with_reducible refine rd_seq ?_
  | with_reducible refine rd_asg ?_
  | with_reducible refine rd_gname ?_
  | with_reducible refine rd_ifS ?_
  | with_reducible refine rd_test ?_
  | with_reducible refine rd_tB ?_
  | with_reducible refine rd_blP ?_
  | ((with_reducible refine' iteY ?rh ?_); (case rh => walk_at "bb"))
  | ((with_reducible refine' iteN ?rh ?_); (case rh => walk_at "bb"))
  | with_reducible refine rd_ret ?_
  | with_reducible refine rd_nx ?_
  | ((with_reducible refine' rd_eq ?rh ?_); (case rh => exact rfl))
  | ((with_reducible refine' rd_ne ?rh ?_); (case rh => exact rfl))
  | with_reducible refine rd_add ?_
  | with_reducible refine rd_sub ?_
  | with_reducible refine rd_i0 ?_
  | with_reducible refine rd_and ?_
  | with_reducible refine rd_or ?_
  | with_reducible refine rd_not ?_
  | with_reducible refine rd_andV ?_
  | with_reducible refine rd_orV ?_
  | with_reducible refine rd_notV ?_
  | with_reducible refine rd_ifE ?_
  | with_reducible refine rd_isN ?_
  | with_reducible refine rd_notN ?_
  | with_reducible refine rd_cons ?_
  | with_reducible refine rd_nil ?_
  | with_reducible refine rd_tup ?_
  | with_reducible refine rd_lst ?_
  | with_reducible refine rd_call ?_
  | with_reducible refine rd_cb ?_
  | with_reducible refine rd_meth ?_
  | with_reducible refine rd_callS ?_
  | with_reducible refine rd_make ?_
  | with_reducible refine rd_rfl ?_
  | with_reducible refine rd_fld ?_
  | with_reducible refine rd_drop ?_
  | with_reducible refine rd_gsub ?_
  | with_reducible refine rd_gcons ?_
  | with_reducible refine rd_gnil ?_
  | with_reducible refine rd_par ?_
  | with_reducible refine rd_two ?_
  | with_reducible refine rd_par3 ?_
  | with_reducible refine rd_three ?_
  | with_reducible refine rd_int1 ?_
  | ((with_reducible refine' rd_i ?rh ?_); (case rh => walk_at "ci"))
  | with_reducible refine rd_part ?_
  | with_reducible refine rd_nopart ?_
  | with_reducible refine rd_int ?_
  | with_reducible refine rd_sl ?_
  | with_reducible refine rd_bm ?_
  | with_reducible refine rd_bm0 ?_
  | with_reducible refine rd_dgetT ?_
  | with_reducible refine rd_din ?_
  | with_reducible refine rd_dnin ?_
  | with_reducible refine rd_un ?_
  | ((with_reducible refine' rd_ixL ?rh ?re ?_); (case rh => walk_at "hp"); (case re => walk_at "at"))
  | ((with_reducible refine' rd_ixT ?rh ?re ?_); (case rh => walk_at "sq"); (case re => walk_at "at"))
  | ((with_reducible refine' rd_lenT ?rh ?_); (case rh => walk_at "sq"))
  | ((with_reducible refine' rd_tyL ?rh ?_); (case rh => walk_at "hp"))
  | ((with_reducible refine' rd_len ?rh ?_); (case rh => walk_at "hp"))
  | with_reducible refine rd_u ?_
  | ((with_reducible refine' rd_slL ?rh ?_); (case rh => walk_at "hp"))
  | with_reducible refine rd_for ?_
  | with_reducible refine rd_rng1 ?_
  | with_reducible refine rd_rng2 ?_
  | with_reducible refine rd_ints1 ?_
  | with_reducible refine rd_ints2 ?_
  | with_reducible refine rd_retN ?_)
local macro_rules | `(tactic| walk_at "rd") => `(tactic| repeat walk_at "rd1")
section
variable [KW]
variable {P : Program} {w : World} {K : PySem.W.Frag} {mg : Str → Option Value} {base : Heap}
/-! ### law -/
def spLaw (K : PySem.W.Frag) : Sp := fun vs H Q _ => ∃ (a : Addr) (ns : List Int), vs = [.ref a] ∧ SqL K H a (ns.map V.int) ∧ ns.length ≤ 63 ∧ ∀ H', Q (.bl true) H'
theorem ok_law (A : All K mg w) (Z : Exs K mg) (Z1 : Er_BadModel Z) : FnOk P w K mg base CX0 16 A.law.f A.law.fd ["script"] (spLaw K) := by
  refine A.law.F.ok sc_law (fun vs H Q E h => ?_) (fun cdv Ar outer s H vs Q E hr h => ?_)
  · obtain ⟨a, ns, rfl, _⟩ := h
    rfl
  · obtain ⟨a, ns, rfl, hS, hl, q⟩ := h
    refine ⟨_, (pss_cons (ps_set (i := 1) sc_law.nd rfl (Or.inl rfl) (pe_call (ok_law_stream A) (hr.mono (by omega)) rfl A.law_stream.m A.law_stream.F.kp A.law_stream.b .nil pass0 (pa_cons (pv 0) pa_nil)))
  (pss_cons (ps_for PassesOwn.never rfl (pi_tup (pe_tup (pa_cons (pe_call (ok_law_from A) (hr.mono (by omega)) rfl A.law_from.m A.law_from.F.kp A.law_from.b .nil pass0 (pa_cons (pv 1) (pa_cons pe_int (pa_cons pe_int pa_nil)))) (pa_cons (pe_call (ok_law_from A) (hr.mono (by omega)) rfl A.law_from.m A.law_from.F.kp A.law_from.b .nil pass0 (pa_cons (pv 1) (pa_cons pe_int (pa_cons pe_int pa_nil)))) (pa_cons (pe_call (ok_law_from A) (hr.mono (by omega)) rfl A.law_from.m A.law_from.F.kp A.law_from.b .nil pass0 (pa_cons (pv 1) (pa_cons pe_int (pa_cons pe_int pa_nil)))) (pa_cons (pe_call (ok_law_from A) (hr.mono (by omega)) rfl A.law_from.m A.law_from.F.kp A.law_from.b .nil pass0 (pa_cons (pv 1) (pa_cons pe_int (pa_cons pe_int pa_nil)))) pa_nil)))))) (pg_name (i := 2) sc_law.nd rfl (Or.inl rfl))
    (pss_cons (ps_set (i := 3) sc_law.nd rfl (Or.inr rfl) (pe_call (ok_law_arcs_of A) (hr.mono (by omega)) rfl A.law_arcs_of.m A.law_arcs_of.F.kp A.law_arcs_of.b .nil pass0 (pa_cons (pv 1) (pa_cons (pv 2) pa_nil))))
  (pss_cons (ps_if (pt_not (pt_val (pe_call (ok_law_is_modal A Z Z1) (hr.mono (by omega)) rfl A.law_is_modal.m A.law_is_modal.F.kp A.law_is_modal.b .nil pass0 (pa_cons (pv 1) (pa_cons (pv 3) pa_nil)))))
    (pss_one (ps_ret pe_bl))
    pss_nil)
  (pss_one (ps_if (pt_not (pt_val (pe_call (ok_law_is_kept A Z Z1) (hr.mono (by omega)) rfl A.law_is_kept.m A.law_is_kept.F.kp A.law_is_kept.b .nil pass0 (pa_cons (pv 1) (pa_cons (pe_ifExp (pt_cmpR op_gt (pe_call (ok_law_next A) (hr.mono (by omega)) rfl A.law_next.m A.law_next.F.kp A.law_next.b .nil pass0 (pa_cons (pv 1) (pa_cons pe_int pa_nil))) pe_int (nomark _)) (pe_call (ok_law_reach A) (hr.mono (by omega)) rfl A.law_reach.m A.law_reach.F.kp A.law_reach.b .nil pass0 (pa_cons (pe_lc (own := [("v", 4)]) (g := (gName 4)) rfl sc_law.nd (pi_range1 rfl A.T.range (pa_cons (pv 2) pa_nil)) (blkOk_by (own := [("v", 4)]) (N := ["script", "stream", "worlds", "sees", "v"]) (sc := defScope s_law) (by decide +kernel)) (fun _ _ _ _ _ => pg_name (i := 4) sc_law.nd rfl (Or.inl rfl)) (fun _ _ _ _ _ => pts_nil) (fun _ _ _ _ _ => (pe_op op_or (pe_ix (ix_listK K rfl) (pv 3) (pv 4) (fun _ _ => rfl)) (pe_op op_shl pe_int (pv 4))))) pa_nil)) (pv 3)) pa_nil)))))
    (pss_one (ps_ret pe_bl))
    pss_nil)))))
  (pss_one (ps_ret pe_bl)))), ?_⟩
    walk_at "rd"
    refine ⟨a, ns, rfl, hS, hl, fun s H1 ns0 hs1 a1 => ?_⟩
    have hs1 : StrAt [s] H1 s := by
      obtain ⟨l, ms, c, k, h1, h2, h3, h4, h5⟩ := hs1
      refine ⟨l, ms, c, k, h1, h2, h3, h4, fun z => ?_⟩
      have e : l = s := by simpa using z
      exact ne_of h2 h1 (ne_lst_ints).symm e
    walk_at "rd"
    unfold iTup
    walk_at "rd"
    refine ⟨s, 1, 3, [s], rfl, hs1, by decide, by decide, fun d1 H2 l1 u1 hs2 a2 => ?_⟩
    walk_at "rd"
    refine ⟨s, 2, 4, [s], rfl, hs2, by decide, by decide, fun d2 H3 l2 u2 hs3 a3 => ?_⟩
    walk_at "rd"
    refine ⟨s, 5, 12, [s], rfl, hs3, by decide, by decide, fun d3 H4 l3 u3 hs4 a4 => ?_⟩
    walk_at "rd"
    refine ⟨s, 5, 40, [s], rfl, hs4, by decide, by decide, fun d4 H5 l4 u4 hs5 a5 => ?_⟩
    walk_at "rd"
    refine ⟨by show 4 ≤ sizeLine; decide, fun p np => ?_⟩
    have ap : Adv [] H5 (upd H5 p (.tup [.int d1, .int d2, .int d3, .int d4])) := Adv.new np
    have ps : p ≠ s := fun z => hs5.here (by rw [← z]; exact np)
    refine ⟨p, rfl, ⟨_, SqT.of upd_same⟩, ?_⟩
    refine for_tup (a := p) (xs := [.int d1, .int d2, .int d3, .int d4]) (fun i σ' H' => ∃ y2 y3, σ' = [some (.ref a), some (.ref s), y2, y3, none] ∧ StrAt [s] H' s ∧ H' p = some (.tup [.int d1, .int d2, .int d3, .int d4]))
      ⟨_, _, rfl, hs5.same ap, upd_same⟩ ?_ ?_ ?_
    · rintro i σ' H' hi ⟨y2, y3, rfl, _, hp⟩
      exact SqT.of hp
    · rintro i x σ' H' hx ⟨y2, y3, rfl, hs, hp⟩
      obtain ⟨n, rfl, n1, n2⟩ : ∃ n : Nat, x = .int (n : Nat) ∧ 1 ≤ n ∧ n ≤ 40 := by
        have hm := List.mem_of_getElem? hx
        simp at hm
        rcases hm with rfl | rfl | rfl | rfl
        · exact ⟨d1.toNat, by rw [Int.toNat_of_nonneg (by omega)], by omega, by omega⟩
        · exact ⟨d2.toNat, by rw [Int.toNat_of_nonneg (by omega)], by omega, by omega⟩
        · exact ⟨d3.toNat, by rw [Int.toNat_of_nonneg (by omega)], by omega, by omega⟩
        · exact ⟨d4.toNat, by rw [Int.toNat_of_nonneg (by omega)], by omega, by omega⟩
      walk_at "rd"
      refine ⟨⟨[s], s, n, rfl, hs, n1, by omega, fun D ss H6 nD hD hn hlt hs6 a6 => ?_⟩⟩
      subst hn
      have Ds : D ≠ s := fun z => hs.here (by rw [← z]; exact nD)
      have hp6 := a6 _ _ (notin1 ps) hp
      walk_at "rd"
      refine ⟨⟨[s], s, D, ss, rfl, hs6.less (by simp), hD, n1, n2, hlt, fun H7 hs7 a7 => ?_⟩⟩
      have hD7 := a7 _ _ (notin1 Ds) hD
      have hp7 := a7 _ _ (notin1 ps) hp6
      refine ⟨_, rfl, iteN rfl ?_⟩
      walk_at "rd"
      refine ⟨s, 3, [s], rfl, hs7, by decide, by decide, fun c H8 c0 c1 hs8 a8 => ?_⟩
      have hD8 := a8 _ _ (notin1 Ds) hD7
      have hp8 := a8 _ _ (notin1 ps) hp7
      walk_at "rd"
      refine iteB (fun e => ?_) (fun e => ?_)
      · walk_at "rd"
        unfold tLc iRng1
        walk_at "rd"
        refine ⟨by omega, by omega, fun D2 nD2 => ?_⟩
        refine lc_mapRl (fun j => V.int (sA ss j ||| 2 ^ j : Nat)) nD2 (by omega) ?_ ?_
        · intro j H' acc R' hj aH hD2 kk
          have hD' := aH.same _ _ hD8
          have g1 := nVl_get? (l := ss) (i := j) (by omega)
          refine ⟨rfl, ?_⟩
          rw [Int.zero_add]
          walk_at "rd"
          refine rd_shl1 (by omega) (rd_bor ?_)
          exact kk H' hD2 aH
        · intro H9 a9 hD2
          rw [Int.toNat_natCast] at hD2
          have e2 : (List.range ss.length).map (fun j => V.int (sA ss j ||| 2 ^ j : Nat)) = nVl ((List.range ss.length).map fun j => sA ss j ||| 2 ^ j) := by
            unfold nVl
            rw [List.map_map]
            rfl
          rw [e2] at hD2
          walk_at "rd"
          refine ⟨⟨D2, _, rfl, hD2, by simp; omega, fun y hy => ?_, fun D3 ss' H10 nD3 hD3 h3 h4 a10 => ?_⟩⟩
          · obtain ⟨j, hj, rfl⟩ := List.mem_map.mp hy
            rw [List.length_map, List.length_range]
            exact or_pow (sA_lt hlt j) (List.mem_range.mp hj)
          have hl3 : ss'.length = ss.length := by rw [h3, List.length_map, List.length_range]
          have hs10 := hs8.same (a9.trans a10)
          have hp10 := (a9.trans a10).same _ _ hp8
          walk_at "rd"
          refine ⟨⟨s, D3, ss', rfl, hs10, hD3, by omega, by omega, by rw [h3]; exact h4, fun H11 hs11 a11 => ?_⟩⟩
          refine ⟨_, rfl, iteN rfl ?_⟩
          walk_at "rd"
          exact ⟨_, _, rfl, hs11, a11 _ _ (notin1 ps) hp10⟩
      · walk_at "rd"
        refine ⟨⟨s, D, ss, rfl, hs8, hD8, n1, n2, hlt, fun H11 hs11 a11 => ?_⟩⟩
        refine ⟨_, rfl, iteN rfl ?_⟩
        walk_at "rd"
        exact ⟨_, _, rfl, hs11, a11 _ _ (notin1 ps) hp8⟩
    · rintro σ' H' ⟨y2, y3, rfl, hs, hp⟩
      walk_at "rd"
      exact q H'
end
end K10

set_option Elab.async false
set_option linter.all false
set_option maxRecDepth 100000
set_option maxHeartbeats 4000000
namespace K10
open PySem PySem.Spec PyProof.Rows L2 LL
/-! what the top has written -/
theorem kit_of {K : PySem.W.Frag} {D C : Addr} {b : Bool} (ht : PySem.W.typeIn K (.ref C) = some (.type "type")) (hd : PySem.W.hasDictIn K C = true) (h : PySem.W.subIn K (.ref D) (.ref C) = some b) (self : PySem.W.subIn K (.ref D) (.ref D) = some true) : PySem.W.kitOne K (.ref D) (.ref C) = some b := by
  unfold PySem.W.kitOne
  by_cases e : D = C
  · subst e
    rw [h] at self
    rw [if_pos (by simp)]
    exact self.symm
  · rw [if_neg (by simpa using e)]
    obtain ⟨cd, hc, _⟩ := PySem.W.any_some hd
    show (if ((PySem.W.clsIn K C).isSome && PySem.W.typeIn K (.ref C) == some (.type "type")) = true then PySem.W.subIn K (.ref D) (.ref C) else none) = some b
    rw [if_pos (by rw [hc, ht]; rfl)]
    exact h
theorem kit_val {K : PySem.W.Frag} {D : Addr} (h : PySem.W.subIn K (.ref D) (.type "ValueError") = some true) : PySem.W.kitOne K (.ref D) (.type "ValueError") = some true := by
  unfold PySem.W.kitOne
  rw [if_neg (by simp)]
  show (if PySem.W.kitMeta "ValueError" = true then PySem.W.subIn K (.ref D) (.type "ValueError") else none) = some true
  rw [if_pos (by decide +kernel)]
  exact h
theorem rv_str {x : Str} {t : Tok} : RelV (.str x) (.str x t) := ⟨t, rfl⟩
theorem sqT_K {K : PySem.W.Frag} {a : Addr} {od : Option Addr} {its : Array Value} {n : Nat} {sl : Array (Option Value)} {xs : List V} (h : K.lookup a = some ⟨.type "tuple", od, .seq its n, sl⟩) (hz : its.size ≤ sizeLine) (r : Vals xs its.toList) (H : Hp) : SqT K H a xs :=
  .inr ⟨_, its, n, h, rfl, rfl, hz, r⟩
theorem find_map {z : Str} : ∀ l : List DictEntry, (l.find? (·.key.isStr z)).map (·.val) = ((l.map fun e => (e.key, e.val)).find? fun p => p.1.isStr z).map (·.2)
  | [] => rfl
  | e :: l => by
    rw [List.map_cons, List.find?_cons, List.find?_cons]
    show Option.map _ (match e.key.isStr z with | true => _ | false => _) = Option.map _ (match e.key.isStr z with | true => _ | false => _)
    cases e.key.isStr z with
    | true => rfl
    | false => exact find_map l
theorem any_map : ∀ l : List DictEntry, l.any (·.refKey) = (l.map fun e => (e.key, e.val)).any fun p => match p.1 with | .ref _ => true | _ => false
  | [] => rfl
  | e :: l => by
    rw [List.map_cons, List.any_cons, List.any_cons, any_map l]
    rfl
theorem items_at {K : PySem.W.Frag} {a : Addr} {es : Array DictEntry} {n : Nat} {i1 i2 i3 i4 i5 i6 j1 j2 j3 j4 j5 j6 : Tok} (h : K.lookup a = some ⟨.type "dict", none, .dict es n, #[]⟩)
    (e : es.toList.map (fun e => (e.key, e.val)) = [(.str "letter" i1, .int 2 j1), (.str "no" i2, .int 1 j2), (.str "and" i3, .int 3 j3), (.str "or" i4, .int 3 j4), (.str "if" i5, .int 3 j5), (.str "box" i6, .int 2 j6)]) (z : Str) :
    ∃ r, PySem.W.nsIn K a z = some r ∧ RelV (match nItems z with | some k => V.int (k : Nat) | none => V.non) (r.getD .none) := by
  have f := find_map (z := z) es.toList
  have g := any_map es.toList
  rw [e] at f g
  have g' : es.toList.any (·.refKey) = false := g
  unfold PySem.W.nsIn
  rw [h]
  show ∃ r, (match es.toList.find? (·.key.isStr z) with | some e => some (some e.val) | none => if es.toList.any (·.refKey) then none else some none) = some r ∧ _
  rw [g']
  have step : ∀ r : Option Value, (es.toList.find? (·.key.isStr z)).map (·.val) = r → RelV (match nItems z with | some k => V.int (k : Nat) | none => V.non) (r.getD .none) →
      ∃ r, (match es.toList.find? (·.key.isStr z) with | some e => some (some e.val) | none => if false = true then none else some none) = some r ∧ RelV (match nItems z with | some k => V.int (k : Nat) | none => V.non) (r.getD .none) := by
    intro r hr rel
    cases q : es.toList.find? (·.key.isStr z) with
    | none =>
      rw [q] at hr
      exact ⟨none, rfl, by rw [← hr] at rel; exact rel⟩
    | some en =>
      rw [q] at hr
      exact ⟨some en.val, rfl, by rw [← hr] at rel; exact rel⟩
  refine step _ f ?_
  have iS : ∀ (x : Str) (t : Tok), Value.isStr (.str x t) z = (x == z) := fun _ _ => rfl
  by_cases h1 : z = "letter"
  · subst h1; exact ⟨_, rfl⟩
  by_cases h2 : z = "no"
  · subst h2; exact ⟨_, rfl⟩
  by_cases h3 : z = "and"
  · subst h3; exact ⟨_, rfl⟩
  by_cases h4 : z = "or"
  · subst h4; exact ⟨_, rfl⟩
  by_cases h5 : z = "if"
  · subst h5; exact ⟨_, rfl⟩
  by_cases h6 : z = "box"
  · subst h6; exact ⟨_, rfl⟩
  have n0 : nItems z = none := by
    unfold nItems
    rw [if_neg h1, if_neg h2, if_neg h3, if_neg h4, if_neg h5, if_neg h6]
  rw [n0]
  have ne : ∀ x : Str, z ≠ x → (x == z) = false := fun x hx => by simpa using fun e => hx e.symm
  simp only [List.find?_cons, iS, ne _ h1, ne _ h2, ne _ h3, ne _ h4, ne _ h5, ne _ h6, List.find?_nil]
  rfl
/-- the tuples of the written part, and how a tuple key is hashed -/
def kwOf (K : PySem.W.Frag) (P : Program) (w : World) : KW := ⟨fun a vs => ∃ (o : Obj) (its : Array Value) (n : Nat), K.lookup a = some o ∧ o.cls = .type "tuple" ∧ o.data = .seq its n ∧ its.size ≤ sizeLine ∧ Vals vs its.toList, fun ks => (tupleKind (mixKind P w)).hash ks⟩
theorem all_mk {P : Program} {w : World} {K : PySem.W.Frag} {h : Heap} {mg : Str → Option Value} {fa : Addr} (X : K.In h) (G : h.Ns mainGlobals mg) (hfa : mg "law" = some (.ref fa))
    {od1 an1 : Option Addr} {sl1 : Array (Option Value)} {oc1 kV1 dc1 pm1 cd1 ct1 : Value} {f1 : Addr}
    {od2 an2 : Option Addr} {sl2 : Array (Option Value)} {oc2 kV2 dc2 pm2 cd2 ct2 : Value} {f2 : Addr}
    {od3 an3 : Option Addr} {sl3 : Array (Option Value)} {oc3 kV3 dc3 pm3 cd3 ct3 : Value} {f3 : Addr}
    {od4 an4 : Option Addr} {sl4 : Array (Option Value)} {oc4 kV4 dc4 pm4 cd4 ct4 : Value} {f4 : Addr}
    {od5 an5 : Option Addr} {sl5 : Array (Option Value)} {oc5 kV5 dc5 pm5 cd5 ct5 : Value} {f5 : Addr}
    {od6 an6 : Option Addr} {sl6 : Array (Option Value)} {oc6 kV6 dc6 pm6 cd6 ct6 : Value} {f6 : Addr}
    {od7 an7 : Option Addr} {sl7 : Array (Option Value)} {oc7 kV7 dc7 pm7 cd7 ct7 : Value} {f7 : Addr}
    {od8 an8 : Option Addr} {sl8 : Array (Option Value)} {oc8 kV8 dc8 pm8 cd8 ct8 : Value} {f8 : Addr}
    {od9 an9 : Option Addr} {sl9 : Array (Option Value)} {oc9 kV9 dc9 pm9 cd9 ct9 : Value} {f9 : Addr}
    {od10 an10 : Option Addr} {sl10 : Array (Option Value)} {oc10 kV10 dc10 pm10 cd10 ct10 : Value} {f10 : Addr}
    {od11 an11 : Option Addr} {sl11 : Array (Option Value)} {oc11 kV11 dc11 pm11 cd11 ct11 : Value} {f11 : Addr}
    {od12 an12 : Option Addr} {sl12 : Array (Option Value)} {oc12 kV12 dc12 pm12 cd12 ct12 : Value} {f12 : Addr}
    {od13 an13 : Option Addr} {sl13 : Array (Option Value)} {oc13 kV13 dc13 pm13 cd13 ct13 : Value} {f13 : Addr}
    {od14 an14 : Option Addr} {sl14 : Array (Option Value)} {oc14 kV14 dc14 pm14 cd14 ct14 : Value} {f14 : Addr}
    {od15 an15 : Option Addr} {sl15 : Array (Option Value)} {oc15 kV15 dc15 pm15 cd15 ct15 : Value} {f15 : Addr}
    {od16 an16 : Option Addr} {sl16 : Array (Option Value)} {oc16 kV16 dc16 pm16 cd16 ct16 : Value} {f16 : Addr}
    {od17 an17 : Option Addr} {sl17 : Array (Option Value)} {oc17 kV17 dc17 pm17 cd17 ct17 : Value} {f17 : Addr}
    {od18 an18 : Option Addr} {sl18 : Array (Option Value)} {oc18 kV18 dc18 pm18 cd18 ct18 : Value} {f18 : Addr}
    {od19 an19 : Option Addr} {sl19 : Array (Option Value)} {oc19 kV19 dc19 pm19 cd19 ct19 : Value} {f19 : Addr}
    {od20 an20 : Option Addr} {sl20 : Array (Option Value)} {oc20 kV20 dc20 pm20 cd20 ct20 : Value} {f20 : Addr}
    {od21 an21 : Option Addr} {sl21 : Array (Option Value)} {oc21 kV21 dc21 pm21 cd21 ct21 : Value} {f21 : Addr}
    {od22 an22 : Option Addr} {sl22 : Array (Option Value)} {oc22 kV22 dc22 pm22 cd22 ct22 : Value} {f22 : Addr}
    {od23 an23 : Option Addr} {sl23 : Array (Option Value)} {oc23 kV23 dc23 pm23 cd23 ct23 : Value} {f23 : Addr}
    {od24 an24 : Option Addr} {sl24 : Array (Option Value)} {oc24 kV24 dc24 pm24 cd24 ct24 : Value} {f24 : Addr}
    {od25 an25 : Option Addr} {sl25 : Array (Option Value)} {oc25 kV25 dc25 pm25 cd25 ct25 : Value} {f25 : Addr}
    {od26 an26 : Option Addr} {sl26 : Array (Option Value)} {oc26 kV26 dc26 pm26 cd26 ct26 : Value} {f26 : Addr}
    {od27 an27 : Option Addr} {sl27 : Array (Option Value)} {oc27 kV27 dc27 pm27 cd27 ct27 : Value} {f27 : Addr}
    {od28 an28 : Option Addr} {sl28 : Array (Option Value)} {oc28 kV28 dc28 pm28 cd28 ct28 : Value} {f28 : Addr}
    {od29 an29 : Option Addr} {sl29 : Array (Option Value)} {oc29 kV29 dc29 pm29 cd29 ct29 : Value} {f29 : Addr}
    {od30 an30 : Option Addr} {sl30 : Array (Option Value)} {oc30 kV30 dc30 pm30 cd30 ct30 : Value} {f30 : Addr}
    {od31 an31 : Option Addr} {sl31 : Array (Option Value)} {oc31 kV31 dc31 pm31 cd31 ct31 : Value} {f31 : Addr}
    {od32 an32 : Option Addr} {sl32 : Array (Option Value)} {oc32 kV32 dc32 pm32 cd32 ct32 : Value} {f32 : Addr}
    {od33 an33 : Option Addr} {sl33 : Array (Option Value)} {oc33 kV33 dc33 pm33 cd33 ct33 : Value} {f33 : Addr}
    {od34 an34 : Option Addr} {sl34 : Array (Option Value)} {oc34 kV34 dc34 pm34 cd34 ct34 : Value} {f34 : Addr}
    {od35 an35 : Option Addr} {sl35 : Array (Option Value)} {oc35 kV35 dc35 pm35 cd35 ct35 : Value} {f35 : Addr}
    {od36 an36 : Option Addr} {sl36 : Array (Option Value)} {oc36 kV36 dc36 pm36 cd36 ct36 : Value} {f36 : Addr}
    {od37 an37 : Option Addr} {sl37 : Array (Option Value)} {oc37 kV37 dc37 pm37 cd37 ct37 : Value} {f37 : Addr}
    {od38 an38 : Option Addr} {sl38 : Array (Option Value)} {oc38 kV38 dc38 pm38 cd38 ct38 : Value} {f38 : Addr}
    {od39 an39 : Option Addr} {sl39 : Array (Option Value)} {oc39 kV39 dc39 pm39 cd39 ct39 : Value} {f39 : Addr}
    {od40 an40 : Option Addr} {sl40 : Array (Option Value)} {oc40 kV40 dc40 pm40 cd40 ct40 : Value} {f40 : Addr}
    {od41 an41 : Option Addr} {sl41 : Array (Option Value)} {oc41 kV41 dc41 pm41 cd41 ct41 : Value} {f41 : Addr}
    {od42 an42 : Option Addr} {sl42 : Array (Option Value)} {oc42 kV42 dc42 pm42 cd42 ct42 : Value} {f42 : Addr}
    {od43 an43 : Option Addr} {sl43 : Array (Option Value)} {oc43 kV43 dc43 pm43 cd43 ct43 : Value} {f43 : Addr}
    {od44 an44 : Option Addr} {sl44 : Array (Option Value)} {oc44 kV44 dc44 pm44 cd44 ct44 : Value} {f44 : Addr}
    {od45 an45 : Option Addr} {sl45 : Array (Option Value)} {oc45 kV45 dc45 pm45 cd45 ct45 : Value} {f45 : Addr}
    {od46 an46 : Option Addr} {sl46 : Array (Option Value)} {oc46 kV46 dc46 pm46 cd46 ct46 : Value} {f46 : Addr}
    {od47 an47 : Option Addr} {sl47 : Array (Option Value)} {oc47 kV47 dc47 pm47 cd47 ct47 : Value} {f47 : Addr}
    {od48 an48 : Option Addr} {sl48 : Array (Option Value)} {oc48 kV48 dc48 pm48 cd48 ct48 : Value} {f48 : Addr}
    {od49 an49 : Option Addr} {sl49 : Array (Option Value)} {oc49 kV49 dc49 pm49 cd49 ct49 : Value} {f49 : Addr}
    {od50 an50 : Option Addr} {sl50 : Array (Option Value)} {oc50 kV50 dc50 pm50 cd50 ct50 : Value} {f50 : Addr}
    {od51 an51 : Option Addr} {sl51 : Array (Option Value)} {oc51 kV51 dc51 pm51 cd51 ct51 : Value} {f51 : Addr}
    {od52 an52 : Option Addr} {sl52 : Array (Option Value)} {oc52 kV52 dc52 pm52 cd52 ct52 : Value} {f52 : Addr}
    {od53 an53 : Option Addr} {sl53 : Array (Option Value)} {oc53 kV53 dc53 pm53 cd53 ct53 : Value} {f53 : Addr}
    {od54 an54 : Option Addr} {sl54 : Array (Option Value)} {oc54 kV54 dc54 pm54 cd54 ct54 : Value} {f54 : Addr}
    {od55 an55 : Option Addr} {sl55 : Array (Option Value)} {oc55 kV55 dc55 pm55 cd55 ct55 : Value} {f55 : Addr}
    {od56 an56 : Option Addr} {sl56 : Array (Option Value)} {oc56 kV56 dc56 pm56 cd56 ct56 : Value} {f56 : Addr}
    {ai : Addr} {nI : Nat} {es : Array DictEntry} {i1 i2 i3 i4 i5 i6 j1 j2 j3 j4 j5 j6 : Tok}
    {t_LAST_LETTER : Tok}
    {t_MOST_PAPER_ROWS : Tok}
    {t_MOST_WORLDS : Tok}
    {t_LETTERS : Tok}
    {aLOGICS : Addr} {odLOGICS : Option Addr} {nLOGICS : Nat} {slLOGICS : Array (Option Value)} {mLOGICS0 mLOGICS1 mLOGICS2 mLOGICS3 mLOGICS4 : Tok}
    {aMODAL : Addr} {odMODAL : Option Addr} {nMODAL : Nat} {slMODAL : Array (Option Value)} {mMODAL0 mMODAL1 mMODAL2 : Tok}
    {cBadLogic cBadSheet cBadModel CE : Addr}
    {odEBadModel anEBadModel : Option Addr} {slEBadModel : Array (Option Value)} {ocEBadModel kVEBadModel dcEBadModel pmEBadModel cdEBadModel ctEBadModel : Value} {fEBadModel : Addr}
    (a1 : PySem.W.nsIn K mainGlobals "is_integer" = some (some (.ref f1)))
    (l1 : K.lookup f1 = some ⟨oc1, od1, .func (PySem.W.fnOf "is_integer" "is_integer" (defArgs s_is_integer) (defBody s_is_integer) (defScope s_is_integer) .none kV1 dc1 pm1 an1 cd1 ct1), sl1⟩)
    (c1 : PySem.W.codeIn K cd1 "is_integer" = true)
    (k1 : PySem.W.keepIn K (.ref f1) = true)
    (a2 : PySem.W.nsIn K mainGlobals "is_between" = some (some (.ref f2)))
    (l2 : K.lookup f2 = some ⟨oc2, od2, .func (PySem.W.fnOf "is_between" "is_between" (defArgs s_is_between) (defBody s_is_between) (defScope s_is_between) .none kV2 dc2 pm2 an2 cd2 ct2), sl2⟩)
    (c2 : PySem.W.codeIn K cd2 "is_between" = true)
    (k2 : PySem.W.keepIn K (.ref f2) = true)
    (a3 : PySem.W.nsIn K mainGlobals "is_tuple_of" = some (some (.ref f3)))
    (l3 : K.lookup f3 = some ⟨oc3, od3, .func (PySem.W.fnOf "is_tuple_of" "is_tuple_of" (defArgs s_is_tuple_of) (defBody s_is_tuple_of) (defScope s_is_tuple_of) .none kV3 dc3 pm3 an3 cd3 ct3), sl3⟩)
    (c3 : PySem.W.codeIn K cd3 "is_tuple_of" = true)
    (k3 : PySem.W.keepIn K (.ref f3) = true)
    (a4 : PySem.W.nsIn K mainGlobals "are_any_rows" = some (some (.ref f4)))
    (l4 : K.lookup f4 = some ⟨oc4, od4, .func (PySem.W.fnOf "are_any_rows" "are_any_rows" (defArgs s_are_any_rows) (defBody s_are_any_rows) (defScope s_are_any_rows) .none kV4 dc4 pm4 an4 cd4 ct4), sl4⟩)
    (c4 : PySem.W.codeIn K cd4 "are_any_rows" = true)
    (k4 : PySem.W.keepIn K (.ref f4) = true)
    (a5 : PySem.W.nsIn K mainGlobals "is_rising" = some (some (.ref f5)))
    (l5 : K.lookup f5 = some ⟨oc5, od5, .func (PySem.W.fnOf "is_rising" "is_rising" (defArgs s_is_rising) (defBody s_is_rising) (defScope s_is_rising) .none kV5 dc5 pm5 an5 cd5 ct5), sl5⟩)
    (c5 : PySem.W.codeIn K cd5 "is_rising" = true)
    (k5 : PySem.W.keepIn K (.ref f5) = true)
    (a6 : PySem.W.nsIn K mainGlobals "check_logic" = some (some (.ref f6)))
    (l6 : K.lookup f6 = some ⟨oc6, od6, .func (PySem.W.fnOf "check_logic" "check_logic" (defArgs s_check_logic) (defBody s_check_logic) (defScope s_check_logic) .none kV6 dc6 pm6 an6 cd6 ct6), sl6⟩)
    (c6 : PySem.W.codeIn K cd6 "check_logic" = true)
    (k6 : PySem.W.keepIn K (.ref f6) = true)
    (a7 : PySem.W.nsIn K mainGlobals "is_boxed" = some (some (.ref f7)))
    (l7 : K.lookup f7 = some ⟨oc7, od7, .func (PySem.W.fnOf "is_boxed" "is_boxed" (defArgs s_is_boxed) (defBody s_is_boxed) (defScope s_is_boxed) .none kV7 dc7 pm7 an7 cd7 ct7), sl7⟩)
    (c7 : PySem.W.codeIn K cd7 "is_boxed" = true)
    (k7 : PySem.W.keepIn K (.ref f7) = true)
    (a8 : PySem.W.nsIn K mainGlobals "is_node" = some (some (.ref f8)))
    (l8 : K.lookup f8 = some ⟨oc8, od8, .func (PySem.W.fnOf "is_node" "is_node" (defArgs s_is_node) (defBody s_is_node) (defScope s_is_node) .none kV8 dc8 pm8 an8 cd8 ct8), sl8⟩)
    (c8 : PySem.W.codeIn K cd8 "is_node" = true)
    (k8 : PySem.W.keepIn K (.ref f8) = true)
    (a9 : PySem.W.nsIn K mainGlobals "wrong_row" = some (some (.ref f9)))
    (l9 : K.lookup f9 = some ⟨oc9, od9, .func (PySem.W.fnOf "wrong_row" "wrong_row" (defArgs s_wrong_row) (defBody s_wrong_row) (defScope s_wrong_row) .none kV9 dc9 pm9 an9 cd9 ct9), sl9⟩)
    (c9 : PySem.W.codeIn K cd9 "wrong_row" = true)
    (k9 : PySem.W.keepIn K (.ref f9) = true)
    (a10 : PySem.W.nsIn K mainGlobals "check_rows_of" = some (some (.ref f10)))
    (l10 : K.lookup f10 = some ⟨oc10, od10, .func (PySem.W.fnOf "check_rows_of" "check_rows_of" (defArgs s_check_rows_of) (defBody s_check_rows_of) (defScope s_check_rows_of) .none kV10 dc10 pm10 an10 cd10 ct10), sl10⟩)
    (c10 : PySem.W.codeIn K cd10 "check_rows_of" = true)
    (k10 : PySem.W.keepIn K (.ref f10) = true)
    (a11 : PySem.W.nsIn K mainGlobals "are_arcs" = some (some (.ref f11)))
    (l11 : K.lookup f11 = some ⟨oc11, od11, .func (PySem.W.fnOf "are_arcs" "are_arcs" (defArgs s_are_arcs) (defBody s_are_arcs) (defScope s_are_arcs) .none kV11 dc11 pm11 an11 cd11 ct11), sl11⟩)
    (c11 : PySem.W.codeIn K cd11 "are_arcs" = true)
    (k11 : PySem.W.keepIn K (.ref f11) = true)
    (a12 : PySem.W.nsIn K mainGlobals "are_letters" = some (some (.ref f12)))
    (l12 : K.lookup f12 = some ⟨oc12, od12, .func (PySem.W.fnOf "are_letters" "are_letters" (defArgs s_are_letters) (defBody s_are_letters) (defScope s_are_letters) .none kV12 dc12 pm12 an12 cd12 ct12), sl12⟩)
    (c12 : PySem.W.codeIn K cd12 "are_letters" = true)
    (k12 : PySem.W.keepIn K (.ref f12) = true)
    (a13 : PySem.W.nsIn K mainGlobals "masks_of_arcs" = some (some (.ref f13)))
    (l13 : K.lookup f13 = some ⟨oc13, od13, .func (PySem.W.fnOf "masks_of_arcs" "masks_of_arcs" (defArgs s_masks_of_arcs) (defBody s_masks_of_arcs) (defScope s_masks_of_arcs) .none kV13 dc13 pm13 an13 cd13 ct13), sl13⟩)
    (c13 : PySem.W.codeIn K cd13 "masks_of_arcs" = true)
    (k13 : PySem.W.keepIn K (.ref f13) = true)
    (a14 : PySem.W.nsIn K mainGlobals "mask_of" = some (some (.ref f14)))
    (l14 : K.lookup f14 = some ⟨oc14, od14, .func (PySem.W.fnOf "mask_of" "mask_of" (defArgs s_mask_of) (defBody s_mask_of) (defScope s_mask_of) .none kV14 dc14 pm14 an14 cd14 ct14), sl14⟩)
    (c14 : PySem.W.codeIn K cd14 "mask_of" = true)
    (k14 : PySem.W.keepIn K (.ref f14) = true)
    (a15 : PySem.W.nsIn K mainGlobals "members" = some (some (.ref f15)))
    (l15 : K.lookup f15 = some ⟨oc15, od15, .func (PySem.W.fnOf "members" "members" (defArgs s_members) (defBody s_members) (defScope s_members) .none kV15 dc15 pm15 an15 cd15 ct15), sl15⟩)
    (c15 : PySem.W.codeIn K cd15 "members" = true)
    (k15 : PySem.W.keepIn K (.ref f15) = true)
    (a16 : PySem.W.nsIn K mainGlobals "is_transitive" = some (some (.ref f16)))
    (l16 : K.lookup f16 = some ⟨oc16, od16, .func (PySem.W.fnOf "is_transitive" "is_transitive" (defArgs s_is_transitive) (defBody s_is_transitive) (defScope s_is_transitive) .none kV16 dc16 pm16 an16 cd16 ct16), sl16⟩)
    (c16 : PySem.W.codeIn K cd16 "is_transitive" = true)
    (k16 : PySem.W.keepIn K (.ref f16) = true)
    (a17 : PySem.W.nsIn K mainGlobals "have_property" = some (some (.ref f17)))
    (l17 : K.lookup f17 = some ⟨oc17, od17, .func (PySem.W.fnOf "have_property" "have_property" (defArgs s_have_property) (defBody s_have_property) (defScope s_have_property) .none kV17 dc17 pm17 an17 cd17 ct17), sl17⟩)
    (c17 : PySem.W.codeIn K cd17 "have_property" = true)
    (k17 : PySem.W.keepIn K (.ref f17) = true)
    (a18 : PySem.W.nsIn K mainGlobals "are_kept" = some (some (.ref f18)))
    (l18 : K.lookup f18 = some ⟨oc18, od18, .func (PySem.W.fnOf "are_kept" "are_kept" (defArgs s_are_kept) (defBody s_are_kept) (defScope s_are_kept) .none kV18 dc18 pm18 an18 cd18 ct18), sl18⟩)
    (c18 : PySem.W.codeIn K cd18 "are_kept" = true)
    (k18 : PySem.W.keepIn K (.ref f18) = true)
    (a19 : PySem.W.nsIn K mainGlobals "wrong_word" = some (some (.ref f19)))
    (l19 : K.lookup f19 = some ⟨oc19, od19, .func (PySem.W.fnOf "wrong_word" "wrong_word" (defArgs s_wrong_word) (defBody s_wrong_word) (defScope s_wrong_word) .none kV19 dc19 pm19 an19 cd19 ct19), sl19⟩)
    (c19 : PySem.W.codeIn K cd19 "wrong_word" = true)
    (k19 : PySem.W.keepIn K (.ref f19) = true)
    (a20 : PySem.W.nsIn K mainGlobals "check_form" = some (some (.ref f20)))
    (l20 : K.lookup f20 = some ⟨oc20, od20, .func (PySem.W.fnOf "check_form" "check_form" (defArgs s_check_form) (defBody s_check_form) (defScope s_check_form) .none kV20 dc20 pm20 an20 cd20 ct20), sl20⟩)
    (c20 : PySem.W.codeIn K cd20 "check_form" = true)
    (k20 : PySem.W.keepIn K (.ref f20) = true)
    (a21 : PySem.W.nsIn K mainGlobals "check_model" = some (some (.ref f21)))
    (l21 : K.lookup f21 = some ⟨oc21, od21, .func (PySem.W.fnOf "check_model" "check_model" (defArgs s_check_model) (defBody s_check_model) (defScope s_check_model) .none kV21 dc21 pm21 an21 cd21 ct21), sl21⟩)
    (c21 : PySem.W.codeIn K cd21 "check_model" = true)
    (k21 : PySem.W.keepIn K (.ref f21) = true)
    (a22 : PySem.W.nsIn K mainGlobals "masks_behind" = some (some (.ref f22)))
    (l22 : K.lookup f22 = some ⟨oc22, od22, .func (PySem.W.fnOf "masks_behind" "masks_behind" (defArgs s_masks_behind) (defBody s_masks_behind) (defScope s_masks_behind) .none kV22 dc22 pm22 an22 cd22 ct22), sl22⟩)
    (c22 : PySem.W.codeIn K cd22 "masks_behind" = true)
    (k22 : PySem.W.keepIn K (.ref f22) = true)
    (a23 : PySem.W.nsIn K mainGlobals "letter_masks" = some (some (.ref f23)))
    (l23 : K.lookup f23 = some ⟨oc23, od23, .func (PySem.W.fnOf "letter_masks" "letter_masks" (defArgs s_letter_masks) (defBody s_letter_masks) (defScope s_letter_masks) .none kV23 dc23 pm23 an23 cd23 ct23), sl23⟩)
    (c23 : PySem.W.codeIn K cd23 "letter_masks" = true)
    (k23 : PySem.W.keepIn K (.ref f23) = true)
    (a24 : PySem.W.nsIn K mainGlobals "boxed_mask" = some (some (.ref f24)))
    (l24 : K.lookup f24 = some ⟨oc24, od24, .func (PySem.W.fnOf "boxed_mask" "boxed_mask" (defArgs s_boxed_mask) (defBody s_boxed_mask) (defScope s_boxed_mask) .none kV24 dc24 pm24 an24 cd24 ct24), sl24⟩)
    (c24 : PySem.W.codeIn K cd24 "boxed_mask" = true)
    (k24 : PySem.W.keepIn K (.ref f24) = true)
    (a25 : PySem.W.nsIn K mainGlobals "truth_masks" = some (some (.ref f25)))
    (l25 : K.lookup f25 = some ⟨oc25, od25, .func (PySem.W.fnOf "truth_masks" "truth_masks" (defArgs s_truth_masks) (defBody s_truth_masks) (defScope s_truth_masks) .none kV25 dc25 pm25 an25 cd25 ct25), sl25⟩)
    (c25 : PySem.W.codeIn K cd25 "truth_masks" = true)
    (k25 : PySem.W.keepIn K (.ref f25) = true)
    (a26 : PySem.W.nsIn K mainGlobals "truths" = some (some (.ref f26)))
    (l26 : K.lookup f26 = some ⟨oc26, od26, .func (PySem.W.fnOf "truths" "truths" (defArgs s_truths) (defBody s_truths) (defScope s_truths) .none kV26 dc26 pm26 an26 cd26 ct26), sl26⟩)
    (c26 : PySem.W.codeIn K cd26 "truths" = true)
    (k26 : PySem.W.keepIn K (.ref f26) = true)
    (a27 : PySem.W.nsIn K mainGlobals "_law_stream" = some (some (.ref f27)))
    (l27 : K.lookup f27 = some ⟨oc27, od27, .func (PySem.W.fnOf "_law_stream" "_law_stream" (defArgs s_law_stream) (defBody s_law_stream) (defScope s_law_stream) .none kV27 dc27 pm27 an27 cd27 ct27), sl27⟩)
    (c27 : PySem.W.codeIn K cd27 "_law_stream" = true)
    (k27 : PySem.W.keepIn K (.ref f27) = true)
    (a28 : PySem.W.nsIn K mainGlobals "_law_next" = some (some (.ref f28)))
    (l28 : K.lookup f28 = some ⟨oc28, od28, .func (PySem.W.fnOf "_law_next" "_law_next" (defArgs s_law_next) (defBody s_law_next) (defScope s_law_next) .none kV28 dc28 pm28 an28 cd28 ct28), sl28⟩)
    (c28 : PySem.W.codeIn K cd28 "_law_next" = true)
    (k28 : PySem.W.keepIn K (.ref f28) = true)
    (a29 : PySem.W.nsIn K mainGlobals "_law_pick" = some (some (.ref f29)))
    (l29 : K.lookup f29 = some ⟨oc29, od29, .func (PySem.W.fnOf "_law_pick" "_law_pick" (defArgs s_law_pick) (defBody s_law_pick) (defScope s_law_pick) .none kV29 dc29 pm29 an29 cd29 ct29), sl29⟩)
    (c29 : PySem.W.codeIn K cd29 "_law_pick" = true)
    (k29 : PySem.W.keepIn K (.ref f29) = true)
    (a30 : PySem.W.nsIn K mainGlobals "_law_from" = some (some (.ref f30)))
    (l30 : K.lookup f30 = some ⟨oc30, od30, .func (PySem.W.fnOf "_law_from" "_law_from" (defArgs s_law_from) (defBody s_law_from) (defScope s_law_from) .none kV30 dc30 pm30 an30 cd30 ct30), sl30⟩)
    (c30 : PySem.W.codeIn K cd30 "_law_from" = true)
    (k30 : PySem.W.keepIn K (.ref f30) = true)
    (a31 : PySem.W.nsIn K mainGlobals "_law_some" = some (some (.ref f31)))
    (l31 : K.lookup f31 = some ⟨oc31, od31, .func (PySem.W.fnOf "_law_some" "_law_some" (defArgs s_law_some) (defBody s_law_some) (defScope s_law_some) .none kV31 dc31 pm31 an31 cd31 ct31), sl31⟩)
    (c31 : PySem.W.codeIn K cd31 "_law_some" = true)
    (k31 : PySem.W.keepIn K (.ref f31) = true)
    (a32 : PySem.W.nsIn K mainGlobals "_law_shuffled" = some (some (.ref f32)))
    (l32 : K.lookup f32 = some ⟨oc32, od32, .func (PySem.W.fnOf "_law_shuffled" "_law_shuffled" (defArgs s_law_shuffled) (defBody s_law_shuffled) (defScope s_law_shuffled) .none kV32 dc32 pm32 an32 cd32 ct32), sl32⟩)
    (c32 : PySem.W.codeIn K cd32 "_law_shuffled" = true)
    (k32 : PySem.W.keepIn K (.ref f32) = true)
    (a33 : PySem.W.nsIn K mainGlobals "_law_same" = some (some (.ref f33)))
    (l33 : K.lookup f33 = some ⟨oc33, od33, .func (PySem.W.fnOf "_law_same" "_law_same" (defArgs s_law_same) (defBody s_law_same) (defScope s_law_same) .none kV33 dc33 pm33 an33 cd33 ct33), sl33⟩)
    (c33 : PySem.W.codeIn K cd33 "_law_same" = true)
    (k33 : PySem.W.keepIn K (.ref f33) = true)
    (a34 : PySem.W.nsIn K mainGlobals "_law_row" = some (some (.ref f34)))
    (l34 : K.lookup f34 = some ⟨oc34, od34, .func (PySem.W.fnOf "_law_row" "_law_row" (defArgs s_law_row) (defBody s_law_row) (defScope s_law_row) .none kV34 dc34 pm34 an34 cd34 ct34), sl34⟩)
    (c34 : PySem.W.codeIn K cd34 "_law_row" = true)
    (k34 : PySem.W.keepIn K (.ref f34) = true)
    (a35 : PySem.W.nsIn K mainGlobals "_law_not" = some (some (.ref f35)))
    (l35 : K.lookup f35 = some ⟨oc35, od35, .func (PySem.W.fnOf "_law_not" "_law_not" (defArgs s_law_not) (defBody s_law_not) (defScope s_law_not) .none kV35 dc35 pm35 an35 cd35 ct35), sl35⟩)
    (c35 : PySem.W.codeIn K cd35 "_law_not" = true)
    (k35 : PySem.W.keepIn K (.ref f35) = true)
    (a36 : PySem.W.nsIn K mainGlobals "_law_leaf" = some (some (.ref f36)))
    (l36 : K.lookup f36 = some ⟨oc36, od36, .func (PySem.W.fnOf "_law_leaf" "_law_leaf" (defArgs s_law_leaf) (defBody s_law_leaf) (defScope s_law_leaf) .none kV36 dc36 pm36 an36 cd36 ct36), sl36⟩)
    (c36 : PySem.W.codeIn K cd36 "_law_leaf" = true)
    (k36 : PySem.W.keepIn K (.ref f36) = true)
    (a37 : PySem.W.nsIn K mainGlobals "_law_tree" = some (some (.ref f37)))
    (l37 : K.lookup f37 = some ⟨oc37, od37, .func (PySem.W.fnOf "_law_tree" "_law_tree" (defArgs s_law_tree) (defBody s_law_tree) (defScope s_law_tree) .none kV37 dc37 pm37 an37 cd37 ct37), sl37⟩)
    (c37 : PySem.W.codeIn K cd37 "_law_tree" = true)
    (k37 : PySem.W.keepIn K (.ref f37) = true)
    (a38 : PySem.W.nsIn K mainGlobals "_law_heap" = some (some (.ref f38)))
    (l38 : K.lookup f38 = some ⟨oc38, od38, .func (PySem.W.fnOf "_law_heap" "_law_heap" (defArgs s_law_heap) (defBody s_law_heap) (defScope s_law_heap) .none kV38 dc38 pm38 an38 cd38 ct38), sl38⟩)
    (c38 : PySem.W.codeIn K cd38 "_law_heap" = true)
    (k38 : PySem.W.keepIn K (.ref f38) = true)
    (a39 : PySem.W.nsIn K mainGlobals "_law_formula" = some (some (.ref f39)))
    (l39 : K.lookup f39 = some ⟨oc39, od39, .func (PySem.W.fnOf "_law_formula" "_law_formula" (defArgs s_law_formula) (defBody s_law_formula) (defScope s_law_formula) .none kV39 dc39 pm39 an39 cd39 ct39), sl39⟩)
    (c39 : PySem.W.codeIn K cd39 "_law_formula" = true)
    (k39 : PySem.W.keepIn K (.ref f39) = true)
    (a40 : PySem.W.nsIn K mainGlobals "_law_bits" = some (some (.ref f40)))
    (l40 : K.lookup f40 = some ⟨oc40, od40, .func (PySem.W.fnOf "_law_bits" "_law_bits" (defArgs s_law_bits) (defBody s_law_bits) (defScope s_law_bits) .none kV40 dc40 pm40 an40 cd40 ct40), sl40⟩)
    (c40 : PySem.W.codeIn K cd40 "_law_bits" = true)
    (k40 : PySem.W.keepIn K (.ref f40) = true)
    (a41 : PySem.W.nsIn K mainGlobals "_law_listed" = some (some (.ref f41)))
    (l41 : K.lookup f41 = some ⟨oc41, od41, .func (PySem.W.fnOf "_law_listed" "_law_listed" (defArgs s_law_listed) (defBody s_law_listed) (defScope s_law_listed) .none kV41 dc41 pm41 an41 cd41 ct41), sl41⟩)
    (c41 : PySem.W.codeIn K cd41 "_law_listed" = true)
    (k41 : PySem.W.keepIn K (.ref f41) = true)
    (a42 : PySem.W.nsIn K mainGlobals "_law_sees" = some (some (.ref f42)))
    (l42 : K.lookup f42 = some ⟨oc42, od42, .func (PySem.W.fnOf "_law_sees" "_law_sees" (defArgs s_law_sees) (defBody s_law_sees) (defScope s_law_sees) .none kV42 dc42 pm42 an42 cd42 ct42), sl42⟩)
    (c42 : PySem.W.codeIn K cd42 "_law_sees" = true)
    (k42 : PySem.W.keepIn K (.ref f42) = true)
    (a43 : PySem.W.nsIn K mainGlobals "_law_boxed" = some (some (.ref f43)))
    (l43 : K.lookup f43 = some ⟨oc43, od43, .func (PySem.W.fnOf "_law_boxed" "_law_boxed" (defArgs s_law_boxed) (defBody s_law_boxed) (defScope s_law_boxed) .none kV43 dc43 pm43 an43 cd43 ct43), sl43⟩)
    (c43 : PySem.W.codeIn K cd43 "_law_boxed" = true)
    (k43 : PySem.W.keepIn K (.ref f43) = true)
    (a44 : PySem.W.nsIn K mainGlobals "_law_reach" = some (some (.ref f44)))
    (l44 : K.lookup f44 = some ⟨oc44, od44, .func (PySem.W.fnOf "_law_reach" "_law_reach" (defArgs s_law_reach) (defBody s_law_reach) (defScope s_law_reach) .none kV44 dc44 pm44 an44 cd44 ct44), sl44⟩)
    (c44 : PySem.W.codeIn K cd44 "_law_reach" = true)
    (k44 : PySem.W.keepIn K (.ref f44) = true)
    (a45 : PySem.W.nsIn K mainGlobals "_law_arcs" = some (some (.ref f45)))
    (l45 : K.lookup f45 = some ⟨oc45, od45, .func (PySem.W.fnOf "_law_arcs" "_law_arcs" (defArgs s_law_arcs) (defBody s_law_arcs) (defScope s_law_arcs) .none kV45 dc45 pm45 an45 cd45 ct45), sl45⟩)
    (c45 : PySem.W.codeIn K cd45 "_law_arcs" = true)
    (k45 : PySem.W.keepIn K (.ref f45) = true)
    (a46 : PySem.W.nsIn K mainGlobals "_law_is_right_model" = some (some (.ref f46)))
    (l46 : K.lookup f46 = some ⟨oc46, od46, .func (PySem.W.fnOf "_law_is_right_model" "_law_is_right_model" (defArgs s_law_is_right_model) (defBody s_law_is_right_model) (defScope s_law_is_right_model) .none kV46 dc46 pm46 an46 cd46 ct46), sl46⟩)
    (c46 : PySem.W.codeIn K cd46 "_law_is_right_model" = true)
    (k46 : PySem.W.keepIn K (.ref f46) = true)
    (a47 : PySem.W.nsIn K mainGlobals "_law_ways" = some (some (.ref f47)))
    (l47 : K.lookup f47 = some ⟨oc47, od47, .func (PySem.W.fnOf "_law_ways" "_law_ways" (defArgs s_law_ways) (defBody s_law_ways) (defScope s_law_ways) .none kV47 dc47 pm47 an47 cd47 ct47), sl47⟩)
    (c47 : PySem.W.codeIn K cd47 "_law_ways" = true)
    (k47 : PySem.W.keepIn K (.ref f47) = true)
    (a48 : PySem.W.nsIn K mainGlobals "_law_schemes" = some (some (.ref f48)))
    (l48 : K.lookup f48 = some ⟨oc48, od48, .func (PySem.W.fnOf "_law_schemes" "_law_schemes" (defArgs s_law_schemes) (defBody s_law_schemes) (defScope s_law_schemes) .none kV48 dc48 pm48 an48 cd48 ct48), sl48⟩)
    (c48 : PySem.W.codeIn K cd48 "_law_schemes" = true)
    (k48 : PySem.W.keepIn K (.ref f48) = true)
    (a49 : PySem.W.nsIn K mainGlobals "_law_arcs_of" = some (some (.ref f49)))
    (l49 : K.lookup f49 = some ⟨oc49, od49, .func (PySem.W.fnOf "_law_arcs_of" "_law_arcs_of" (defArgs s_law_arcs_of) (defBody s_law_arcs_of) (defScope s_law_arcs_of) .none kV49 dc49 pm49 an49 cd49 ct49), sl49⟩)
    (c49 : PySem.W.codeIn K cd49 "_law_arcs_of" = true)
    (k49 : PySem.W.keepIn K (.ref f49) = true)
    (a50 : PySem.W.nsIn K mainGlobals "_law_refuters" = some (some (.ref f50)))
    (l50 : K.lookup f50 = some ⟨oc50, od50, .func (PySem.W.fnOf "_law_refuters" "_law_refuters" (defArgs s_law_refuters) (defBody s_law_refuters) (defScope s_law_refuters) .none kV50 dc50 pm50 an50 cd50 ct50), sl50⟩)
    (c50 : PySem.W.codeIn K cd50 "_law_refuters" = true)
    (k50 : PySem.W.keepIn K (.ref f50) = true)
    (a51 : PySem.W.nsIn K mainGlobals "_law_with" = some (some (.ref f51)))
    (l51 : K.lookup f51 = some ⟨oc51, od51, .func (PySem.W.fnOf "_law_with" "_law_with" (defArgs s_law_with) (defBody s_law_with) (defScope s_law_with) .none kV51 dc51 pm51 an51 cd51 ct51), sl51⟩)
    (c51 : PySem.W.codeIn K cd51 "_law_with" = true)
    (k51 : PySem.W.keepIn K (.ref f51) = true)
    (a52 : PySem.W.nsIn K mainGlobals "_law_hold" = some (some (.ref f52)))
    (l52 : K.lookup f52 = some ⟨oc52, od52, .func (PySem.W.fnOf "_law_hold" "_law_hold" (defArgs s_law_hold) (defBody s_law_hold) (defScope s_law_hold) .none kV52 dc52 pm52 an52 cd52 ct52), sl52⟩)
    (c52 : PySem.W.codeIn K cd52 "_law_hold" = true)
    (k52 : PySem.W.keepIn K (.ref f52) = true)
    (a53 : PySem.W.nsIn K mainGlobals "_law_lets" = some (some (.ref f53)))
    (l53 : K.lookup f53 = some ⟨oc53, od53, .func (PySem.W.fnOf "_law_lets" "_law_lets" (defArgs s_law_lets) (defBody s_law_lets) (defScope s_law_lets) .none kV53 dc53 pm53 an53 cd53 ct53), sl53⟩)
    (c53 : PySem.W.codeIn K cd53 "_law_lets" = true)
    (k53 : PySem.W.keepIn K (.ref f53) = true)
    (a54 : PySem.W.nsIn K mainGlobals "_law_is_modal" = some (some (.ref f54)))
    (l54 : K.lookup f54 = some ⟨oc54, od54, .func (PySem.W.fnOf "_law_is_modal" "_law_is_modal" (defArgs s_law_is_modal) (defBody s_law_is_modal) (defScope s_law_is_modal) .none kV54 dc54 pm54 an54 cd54 ct54), sl54⟩)
    (c54 : PySem.W.codeIn K cd54 "_law_is_modal" = true)
    (k54 : PySem.W.keepIn K (.ref f54) = true)
    (a55 : PySem.W.nsIn K mainGlobals "_law_is_kept" = some (some (.ref f55)))
    (l55 : K.lookup f55 = some ⟨oc55, od55, .func (PySem.W.fnOf "_law_is_kept" "_law_is_kept" (defArgs s_law_is_kept) (defBody s_law_is_kept) (defScope s_law_is_kept) .none kV55 dc55 pm55 an55 cd55 ct55), sl55⟩)
    (c55 : PySem.W.codeIn K cd55 "_law_is_kept" = true)
    (k55 : PySem.W.keepIn K (.ref f55) = true)
    (a56 : PySem.W.nsIn K mainGlobals "law" = some (some (.ref f56)))
    (l56 : K.lookup f56 = some ⟨oc56, od56, .func (PySem.W.fnOf "law" "law" (defArgs s_law) (defBody s_law) (defScope s_law) .none kV56 dc56 pm56 an56 cd56 ct56), sl56⟩)
    (c56 : PySem.W.codeIn K cd56 "law" = true)
    (k56 : PySem.W.keepIn K (.ref f56) = true)
    (z_ValueError : PySem.W.nsIn K mainGlobals "ValueError" = some none)
    (z_abs : PySem.W.nsIn K mainGlobals "abs" = some none)
    (z_all : PySem.W.nsIn K mainGlobals "all" = some none)
    (z_bool : PySem.W.nsIn K mainGlobals "bool" = some none)
    (z_dict : PySem.W.nsIn K mainGlobals "dict" = some none)
    (z_enumerate : PySem.W.nsIn K mainGlobals "enumerate" = some none)
    (z_int : PySem.W.nsIn K mainGlobals "int" = some none)
    (z_isinstance : PySem.W.nsIn K mainGlobals "isinstance" = some none)
    (z_len : PySem.W.nsIn K mainGlobals "len" = some none)
    (z_list : PySem.W.nsIn K mainGlobals "list" = some none)
    (z_min : PySem.W.nsIn K mainGlobals "min" = some none)
    (z_range : PySem.W.nsIn K mainGlobals "range" = some none)
    (z_str : PySem.W.nsIn K mainGlobals "str" = some none)
    (z_tuple : PySem.W.nsIn K mainGlobals "tuple" = some none)
    (aIt : PySem.W.nsIn K mainGlobals "ITEMS" = some (some (.ref ai)))
    (lIt : K.lookup ai = some ⟨.type "dict", none, .dict es nI, #[]⟩)
    (eIt : es.toList.map (fun e => (e.key, e.val)) = [(.str "letter" i1, .int 2 j1), (.str "no" i2, .int 1 j2), (.str "and" i3, .int 3 j3), (.str "or" i4, .int 3 j4), (.str "if" i5, .int 3 j5), (.str "box" i6, .int 2 j6)])
    (kIt : PySem.W.KeysLit w.params es.toList)
    (sIt : (ai == sysModules) = false)
    (n_LAST_LETTER : PySem.W.nsIn K mainGlobals "LAST_LETTER" = some (some (.int 7 t_LAST_LETTER)))
    (n_MOST_PAPER_ROWS : PySem.W.nsIn K mainGlobals "MOST_PAPER_ROWS" = some (some (.int 5000 t_MOST_PAPER_ROWS)))
    (n_MOST_WORLDS : PySem.W.nsIn K mainGlobals "MOST_WORLDS" = some (some (.int 256 t_MOST_WORLDS)))
    (n_LETTERS : PySem.W.nsIn K mainGlobals "LETTERS" = some (some (.int 8 t_LETTERS)))
    (n_LOGICS : PySem.W.nsIn K mainGlobals "LOGICS" = some (some (.ref aLOGICS)))
    (l_LOGICS : K.lookup aLOGICS = some ⟨.type "tuple", odLOGICS, .seq #[.str "classical" mLOGICS0, .str "intuit" mLOGICS1, .str "k" mLOGICS2, .str "s4" mLOGICS3, .str "gl" mLOGICS4] nLOGICS, slLOGICS⟩)
    (n_MODAL : PySem.W.nsIn K mainGlobals "MODAL" = some (some (.ref aMODAL)))
    (l_MODAL : K.lookup aMODAL = some ⟨.type "tuple", odMODAL, .seq #[.str "k" mMODAL0, .str "s4" mMODAL1, .str "gl" mMODAL2] nMODAL, slMODAL⟩)
    (a_BadLogic : PySem.W.nsIn K mainGlobals "BadLogic" = some (some (.ref cBadLogic)))
    (a_BadSheet : PySem.W.nsIn K mainGlobals "BadSheet" = some (some (.ref cBadSheet)))
    (a_BadModel : PySem.W.nsIn K mainGlobals "BadModel" = some (some (.ref cBadModel)))
    (a_CourtError : PySem.W.nsIn K mainGlobals "CourtError" = some (some (.ref CE)))
    (t_BadLogic : PySem.W.typeIn K (.ref cBadLogic) = some (.type "type"))
    (h_BadLogic : PySem.W.hasDictIn K cBadLogic = true)
    (t_BadSheet : PySem.W.typeIn K (.ref cBadSheet) = some (.type "type"))
    (h_BadSheet : PySem.W.hasDictIn K cBadSheet = true)
    (t_BadModel : PySem.W.typeIn K (.ref cBadModel) = some (.type "type"))
    (h_BadModel : PySem.W.hasDictIn K cBadModel = true)
    (t_CourtError : PySem.W.typeIn K (.ref CE) = some (.type "type"))
    (h_CourtError : PySem.W.hasDictIn K CE = true)
    (bC : PySem.W.subIn K (.ref CE) (.type "BaseException") = some true)
    (spc : PySem.W.specialIn K (.builtin "object.__class__") "__get__" = some (some (.builtin "getset_descriptor.__get__")))
    (tkc : PySem.W.takesIn K (.builtin "object.__class__") = some true)
    (s_BadModel_BadLogic : PySem.W.subIn K (.ref cBadModel) (.ref cBadLogic) = some false)
    (s_BadModel_BadSheet : PySem.W.subIn K (.ref cBadModel) (.ref cBadSheet) = some false)
    (s_BadModel_BadModel : PySem.W.subIn K (.ref cBadModel) (.ref cBadModel) = some true)
    (s_BadModel_CourtError : PySem.W.subIn K (.ref cBadModel) (.ref CE) = some true)
    (vBadModel : PySem.W.subIn K (.ref cBadModel) (.type "ValueError") = some true)
    (bBadModel : PySem.W.subIn K (.ref cBadModel) (.type "BaseException") = some true)
    (gaBadModel : PySem.W.findIn K (.ref cBadModel) "__getattribute__" = some (some (.builtin "BaseException.__getattribute__")))
    (ggBadModel : PySem.W.findIn K (.ref cBadModel) "__getattr__" = some none)
    (gcBadModel : PySem.W.findIn K (.ref cBadModel) "__class__" = some (some (.builtin "object.__class__")))
    (moBadModel : PySem.W.mroIn K cBadModel (.type "object") = some true)
    (kpBadModel : PySem.W.keepIn K (.ref cBadModel) = true)
    (xSBadModel : ∃ nm q N bs bm sn sub ab col dd k0 k1 k2 k3 k5, K.lookup cBadModel = some (excClassObj nm q cBadModel N bs bm true sn sub ab col dd k0 k1 k2 k3 k5 "ValueError.__new__") ∧ PySem.HandSPX.refsVE bm = true)
    (saBadModel : PySem.W.findIn K (.ref cBadModel) "__setattr__" = some (some (.builtin "object.__setattr__")))
    (noBadModel : PySem.W.findIn K (.ref cBadModel) "word" = some none)
    (iBadModel : PySem.W.findIn K (.ref cBadModel) "__init__" = some (some (.ref fEBadModel)))
    (tIBadModel : PySem.W.typeIn K (.ref fEBadModel) = some (.type "function"))
    (lEBadModel : K.lookup fEBadModel = some ⟨ocEBadModel, odEBadModel, .func (PySem.W.fnOf "__init__" "BadModel.__init__" (defArgs s_BadModel) (defBody s_BadModel) (defScope s_BadModel) .none kVEBadModel dcEBadModel pmEBadModel anEBadModel cdEBadModel ctEBadModel), slEBadModel⟩)
    (cEBadModel : PySem.W.codeIn K cdEBadModel "BadModel.__init__" = true)
    (kEBadModel : PySem.W.keepIn K (.ref fEBadModel) = true) :
    ∃ fd : FuncData, (∀ (s : Shared) (v : Value), BindsTo s fd ⟨[v], []⟩ [("script", v)]) ∧ ∀ base : Heap, K.In base → base.Ns mainGlobals mg → FnOk P w K mg base CX0 16 fa fd ["script"] (spLaw K) := by
  have e := hfa.symm.trans (PySem.W.mg_of X G a56)
  cases e
  letI : KW := kwOf K P w
  have W : KWOk K w := ⟨fun a vs h => h, fun P2 ks => rfl⟩
  have F1 := fun_mk (st := s_is_integer) l1 c1 k1
  have B1 := F1.binds (ps := ["value"]) fun _ _ _ _ _ _ us hl => match us, hl with | [_], _ => rfl
  have F2 := fun_mk (st := s_is_between) l2 c2 k2
  have B2 := F2.binds (ps := ["value", "low", "high"]) fun _ _ _ _ _ _ us hl => match us, hl with | [_, _, _], _ => rfl
  have F3 := fun_mk (st := s_is_tuple_of) l3 c3 k3
  have B3 := F3.binds (ps := ["value", "many"]) fun _ _ _ _ _ _ us hl => match us, hl with | [_, _], _ => rfl
  have F4 := fun_mk (st := s_are_any_rows) l4 c4 k4
  have B4 := F4.binds (ps := ["value", "count"]) fun _ _ _ _ _ _ us hl => match us, hl with | [_, _], _ => rfl
  have F5 := fun_mk (st := s_is_rising) l5 c5 k5
  have B5 := F5.binds (ps := ["values"]) fun _ _ _ _ _ _ us hl => match us, hl with | [_], _ => rfl
  have F6 := fun_mk (st := s_check_logic) l6 c6 k6
  have B6 := F6.binds (ps := ["logic"]) fun _ _ _ _ _ _ us hl => match us, hl with | [_], _ => rfl
  have F7 := fun_mk (st := s_is_boxed) l7 c7 k7
  have B7 := F7.binds (ps := ["logic"]) fun _ _ _ _ _ _ us hl => match us, hl with | [_], _ => rfl
  have F8 := fun_mk (st := s_is_node) l8 c8 k8
  have B8 := F8.binds (ps := ["value", "row", "boxed"]) fun _ _ _ _ _ _ us hl => match us, hl with | [_, _, _], _ => rfl
  have F9 := fun_mk (st := s_wrong_row) l9 c9 k9
  have B9 := F9.binds (ps := ["value", "most", "boxed"]) fun _ _ _ _ _ _ us hl => match us, hl with | [_, _, _], _ => rfl
  have F10 := fun_mk (st := s_check_rows_of) l10 c10 k10
  have B10 := F10.binds (ps := ["sheet", "most", "boxed"]) fun _ _ _ _ _ _ us hl => match us, hl with | [_, _, _], _ => rfl
  have F11 := fun_mk (st := s_are_arcs) l11 c11 k11
  have B11 := F11.binds (ps := ["value", "worlds"]) fun _ _ _ _ _ _ us hl => match us, hl with | [_, _], _ => rfl
  have F12 := fun_mk (st := s_are_letters) l12 c12 k12
  have B12 := F12.binds (ps := ["value", "worlds"]) fun _ _ _ _ _ _ us hl => match us, hl with | [_, _], _ => rfl
  have F13 := fun_mk (st := s_masks_of_arcs) l13 c13 k13
  have B13 := F13.binds (ps := ["worlds", "arcs"]) fun _ _ _ _ _ _ us hl => match us, hl with | [_, _], _ => rfl
  have F14 := fun_mk (st := s_mask_of) l14 c14 k14
  have B14 := F14.binds (ps := ["rows"]) fun _ _ _ _ _ _ us hl => match us, hl with | [_], _ => rfl
  have F15 := fun_mk (st := s_members) l15 c15 k15
  have B15 := F15.binds (ps := ["mask", "many"]) fun _ _ _ _ _ _ us hl => match us, hl with | [_, _], _ => rfl
  have F16 := fun_mk (st := s_is_transitive) l16 c16 k16
  have B16 := F16.binds (ps := ["arcs", "masks"]) fun _ _ _ _ _ _ us hl => match us, hl with | [_, _], _ => rfl
  have F17 := fun_mk (st := s_have_property) l17 c17 k17
  have B17 := F17.binds (ps := ["logic", "worlds", "arcs"]) fun _ _ _ _ _ _ us hl => match us, hl with | [_, _, _], _ => rfl
  have F18 := fun_mk (st := s_are_kept) l18 c18 k18
  have B18 := F18.binds (ps := ["worlds", "arcs", "letters"]) fun _ _ _ _ _ _ us hl => match us, hl with | [_, _, _], _ => rfl
  have F19 := fun_mk (st := s_wrong_word) l19 c19 k19
  have B19 := F19.binds (ps := ["logic", "value"]) fun _ _ _ _ _ _ us hl => match us, hl with | [_, _], _ => rfl
  have F20 := fun_mk (st := s_check_form) l20 c20 k20
  have B20 := F20.binds (ps := ["logic", "model"]) fun _ _ _ _ _ _ us hl => match us, hl with | [_, _], _ => rfl
  have F21 := fun_mk (st := s_check_model) l21 c21 k21
  have B21 := F21.binds (ps := ["logic", "model"]) fun _ _ _ _ _ _ us hl => match us, hl with | [_, _], _ => rfl
  have F22 := fun_mk (st := s_masks_behind) l22 c22 k22
  have B22 := F22.binds (ps := ["model"]) fun _ _ _ _ _ _ us hl => match us, hl with | [_], _ => rfl
  have F23 := fun_mk (st := s_letter_masks) l23 c23 k23
  have B23 := F23.binds (ps := ["model"]) fun _ _ _ _ _ _ us hl => match us, hl with | [_], _ => rfl
  have F24 := fun_mk (st := s_boxed_mask) l24 c24 k24
  have B24 := F24.binds (ps := ["masks", "held"]) fun _ _ _ _ _ _ us hl => match us, hl with | [_, _], _ => rfl
  have F25 := fun_mk (st := s_truth_masks) l25 c25 k25
  have B25 := F25.binds (ps := ["logic", "model", "sheet"]) fun _ _ _ _ _ _ us hl => match us, hl with | [_, _, _], _ => rfl
  have F26 := fun_mk (st := s_truths) l26 c26 k26
  have B26 := F26.binds (ps := ["logic", "model", "sheet"]) fun _ _ _ _ _ _ us hl => match us, hl with | [_, _, _], _ => rfl
  have F27 := fun_mk (st := s_law_stream) l27 c27 k27
  have B27 := F27.binds (ps := ["script"]) fun _ _ _ _ _ _ us hl => match us, hl with | [_], _ => rfl
  have F28 := fun_mk (st := s_law_next) l28 c28 k28
  have B28 := F28.binds (ps := ["stream", "many"]) fun _ _ _ _ _ _ us hl => match us, hl with | [_, _], _ => rfl
  have F29 := fun_mk (st := s_law_pick) l29 c29 k29
  have B29 := F29.binds (ps := ["stream", "rows"]) fun _ _ _ _ _ _ us hl => match us, hl with | [_, _], _ => rfl
  have F30 := fun_mk (st := s_law_from) l30 c30 k30
  have B30 := F30.binds (ps := ["stream", "low", "high"]) fun _ _ _ _ _ _ us hl => match us, hl with | [_, _, _], _ => rfl
  have F31 := fun_mk (st := s_law_some) l31 c31 k31
  have B31 := F31.binds (ps := ["stream", "rows", "share"]) fun _ _ _ _ _ _ us hl => match us, hl with | [_, _, _], _ => rfl
  have F32 := fun_mk (st := s_law_shuffled) l32 c32 k32
  have B32 := F32.binds (ps := ["stream", "rows"]) fun _ _ _ _ _ _ us hl => match us, hl with | [_, _], _ => rfl
  have F33 := fun_mk (st := s_law_same) l33 c33 k33
  have B33 := F33.binds (ps := ["actual", "due"]) fun _ _ _ _ _ _ us hl => match us, hl with | [_, _], _ => rfl
  have F34 := fun_mk (st := s_law_row) l34 c34 k34
  have B34 := F34.binds (ps := ["book", "node"]) fun _ _ _ _ _ _ us hl => match us, hl with | [_, _], _ => rfl
  have F35 := fun_mk (st := s_law_not) l35 c35 k35
  have B35 := F35.binds (ps := ["book", "row"]) fun _ _ _ _ _ _ us hl => match us, hl with | [_, _], _ => rfl
  have F36 := fun_mk (st := s_law_leaf) l36 c36 k36
  have B36 := F36.binds (ps := ["stream", "book", "letters"]) fun _ _ _ _ _ _ us hl => match us, hl with | [_, _, _], _ => rfl
  have F37 := fun_mk (st := s_law_tree) l37 c37 k37
  have B37 := F37.binds (ps := ["stream", "book", "letters", "many", "boxed"]) fun _ _ _ _ _ _ us hl => match us, hl with | [_, _, _, _, _], _ => rfl
  have F38 := fun_mk (st := s_law_heap) l38 c38 k38
  have B38 := F38.binds (ps := ["stream", "book", "letters", "many", "boxed"]) fun _ _ _ _ _ _ us hl => match us, hl with | [_, _, _, _, _], _ => rfl
  have F39 := fun_mk (st := s_law_formula) l39 c39 k39
  have B39 := F39.binds (ps := ["stream", "book", "letters", "many", "boxed"]) fun _ _ _ _ _ _ us hl => match us, hl with | [_, _, _, _, _], _ => rfl
  have F40 := fun_mk (st := s_law_bits) l40 c40 k40
  have B40 := F40.binds (ps := ["rows"]) fun _ _ _ _ _ _ us hl => match us, hl with | [_], _ => rfl
  have F41 := fun_mk (st := s_law_listed) l41 c41 k41
  have B41 := F41.binds (ps := ["bits", "many"]) fun _ _ _ _ _ _ us hl => match us, hl with | [_, _], _ => rfl
  have F42 := fun_mk (st := s_law_sees) l42 c42 k42
  have B42 := F42.binds (ps := ["model"]) fun _ _ _ _ _ _ us hl => match us, hl with | [_], _ => rfl
  have F43 := fun_mk (st := s_law_boxed) l43 c43 k43
  have B43 := F43.binds (ps := ["sees", "held"]) fun _ _ _ _ _ _ us hl => match us, hl with | [_, _], _ => rfl
  have F44 := fun_mk (st := s_law_reach) l44 c44 k44
  have B44 := F44.binds (ps := ["sees"]) fun _ _ _ _ _ _ us hl => match us, hl with | [_], _ => rfl
  have F45 := fun_mk (st := s_law_arcs) l45 c45 k45
  have B45 := F45.binds (ps := ["sees"]) fun _ _ _ _ _ _ us hl => match us, hl with | [_], _ => rfl
  have F46 := fun_mk (st := s_law_is_right_model) l46 c46 k46
  have B46 := F46.binds (ps := ["logic", "model"]) fun _ _ _ _ _ _ us hl => match us, hl with | [_, _], _ => rfl
  have F47 := fun_mk (st := s_law_ways) l47 c47 k47
  have B47 := F47.binds (ps := ["stream", "logic", "worlds"]) fun _ _ _ _ _ _ us hl => match us, hl with | [_, _, _], _ => rfl
  have F48 := fun_mk (st := s_law_schemes) l48 c48 k48
  have B48 := F48.binds (ps := ["i"]) fun _ _ _ _ _ _ us hl => match us, hl with | [_], _ => rfl
  have F49 := fun_mk (st := s_law_arcs_of) l49 c49 k49
  have B49 := F49.binds (ps := ["stream", "worlds"]) fun _ _ _ _ _ _ us hl => match us, hl with | [_, _], _ => rfl
  have F50 := fun_mk (st := s_law_refuters) l50 c50 k50
  have B50 := F50.binds (ps := ["sees"]) fun _ _ _ _ _ _ us hl => match us, hl with | [_], _ => rfl
  have F51 := fun_mk (st := s_law_with) l51 c51 k51
  have B51 := F51.binds (ps := ["sees", "letters"]) fun _ _ _ _ _ _ us hl => match us, hl with | [_, _], _ => rfl
  have F52 := fun_mk (st := s_law_hold) l52 c52 k52
  have B52 := F52.binds (ps := ["logic", "model", "sheet", "rows"]) fun _ _ _ _ _ _ us hl => match us, hl with | [_, _, _, _], _ => rfl
  have F53 := fun_mk (st := s_law_lets) l53 c53 k53
  have B53 := F53.binds (ps := ["logic", "model"]) fun _ _ _ _ _ _ us hl => match us, hl with | [_, _], _ => rfl
  have F54 := fun_mk (st := s_law_is_modal) l54 c54 k54
  have B54 := F54.binds (ps := ["stream", "sees"]) fun _ _ _ _ _ _ us hl => match us, hl with | [_, _], _ => rfl
  have F55 := fun_mk (st := s_law_is_kept) l55 c55 k55
  have B55 := F55.binds (ps := ["stream", "sees"]) fun _ _ _ _ _ _ us hl => match us, hl with | [_, _], _ => rfl
  have F56 := fun_mk (st := s_law) l56 c56 k56
  have B56 := F56.binds (ps := ["script"]) fun _ _ _ _ _ _ us hl => match us, hl with | [_], _ => rfl
  have FEBadModel := fun_mk (st := s_BadModel) lEBadModel cEBadModel kEBadModel
  have BEBadModel := FEBadModel.binds (ps := ["self", "word"]) fun _ _ _ _ _ _ us hl => match us, hl with | [_, _], _ => rfl
  have T : Txt K mg := ⟨PySem.W.mg_none_of X G z_ValueError, PySem.W.mg_none_of X G z_abs, PySem.W.mg_none_of X G z_all, PySem.W.mg_none_of X G z_bool, PySem.W.mg_none_of X G z_dict, PySem.W.mg_none_of X G z_enumerate, PySem.W.mg_none_of X G z_int, PySem.W.mg_none_of X G z_isinstance, PySem.W.mg_none_of X G z_len, PySem.W.mg_none_of X G z_list, PySem.W.mg_none_of X G z_min, PySem.W.mg_none_of X G z_range, PySem.W.mg_none_of X G z_str, PySem.W.mg_none_of X G z_tuple⟩
  have C : Con K mg w := ⟨⟨ai, es, nI, PySem.W.mg_of X G aIt, ⟨lIt, kIt, sIt⟩, items_at lIt eIt⟩, ⟨_, PySem.W.mg_of X G n_LAST_LETTER⟩, ⟨_, PySem.W.mg_of X G n_MOST_PAPER_ROWS⟩, ⟨_, PySem.W.mg_of X G n_MOST_WORLDS⟩, ⟨_, PySem.W.mg_of X G n_LETTERS⟩, ⟨aLOGICS, PySem.W.mg_of X G n_LOGICS, fun H => sqT_K l_LOGICS (by show 5 ≤ sizeLine; decide) (.cons rv_str (.cons rv_str (.cons rv_str (.cons rv_str (.cons rv_str .nil))))) H⟩, ⟨aMODAL, PySem.W.mg_of X G n_MODAL, fun H => sqT_K l_MODAL (by show 3 ≤ sizeLine; decide) (.cons rv_str (.cons rv_str (.cons rv_str .nil))) H⟩⟩
  let A : All K mg w := ⟨T, C, W, ⟨_, _, F1, PySem.W.mg_of X G a1, B1⟩, ⟨_, _, F2, PySem.W.mg_of X G a2, B2⟩, ⟨_, _, F3, PySem.W.mg_of X G a3, B3⟩, ⟨_, _, F4, PySem.W.mg_of X G a4, B4⟩, ⟨_, _, F5, PySem.W.mg_of X G a5, B5⟩, ⟨_, _, F6, PySem.W.mg_of X G a6, B6⟩, ⟨_, _, F7, PySem.W.mg_of X G a7, B7⟩, ⟨_, _, F8, PySem.W.mg_of X G a8, B8⟩, ⟨_, _, F9, PySem.W.mg_of X G a9, B9⟩, ⟨_, _, F10, PySem.W.mg_of X G a10, B10⟩, ⟨_, _, F11, PySem.W.mg_of X G a11, B11⟩, ⟨_, _, F12, PySem.W.mg_of X G a12, B12⟩, ⟨_, _, F13, PySem.W.mg_of X G a13, B13⟩, ⟨_, _, F14, PySem.W.mg_of X G a14, B14⟩, ⟨_, _, F15, PySem.W.mg_of X G a15, B15⟩, ⟨_, _, F16, PySem.W.mg_of X G a16, B16⟩, ⟨_, _, F17, PySem.W.mg_of X G a17, B17⟩, ⟨_, _, F18, PySem.W.mg_of X G a18, B18⟩, ⟨_, _, F19, PySem.W.mg_of X G a19, B19⟩, ⟨_, _, F20, PySem.W.mg_of X G a20, B20⟩, ⟨_, _, F21, PySem.W.mg_of X G a21, B21⟩, ⟨_, _, F22, PySem.W.mg_of X G a22, B22⟩, ⟨_, _, F23, PySem.W.mg_of X G a23, B23⟩, ⟨_, _, F24, PySem.W.mg_of X G a24, B24⟩, ⟨_, _, F25, PySem.W.mg_of X G a25, B25⟩, ⟨_, _, F26, PySem.W.mg_of X G a26, B26⟩, ⟨_, _, F27, PySem.W.mg_of X G a27, B27⟩, ⟨_, _, F28, PySem.W.mg_of X G a28, B28⟩, ⟨_, _, F29, PySem.W.mg_of X G a29, B29⟩, ⟨_, _, F30, PySem.W.mg_of X G a30, B30⟩, ⟨_, _, F31, PySem.W.mg_of X G a31, B31⟩, ⟨_, _, F32, PySem.W.mg_of X G a32, B32⟩, ⟨_, _, F33, PySem.W.mg_of X G a33, B33⟩, ⟨_, _, F34, PySem.W.mg_of X G a34, B34⟩, ⟨_, _, F35, PySem.W.mg_of X G a35, B35⟩, ⟨_, _, F36, PySem.W.mg_of X G a36, B36⟩, ⟨_, _, F37, PySem.W.mg_of X G a37, B37⟩, ⟨_, _, F38, PySem.W.mg_of X G a38, B38⟩, ⟨_, _, F39, PySem.W.mg_of X G a39, B39⟩, ⟨_, _, F40, PySem.W.mg_of X G a40, B40⟩, ⟨_, _, F41, PySem.W.mg_of X G a41, B41⟩, ⟨_, _, F42, PySem.W.mg_of X G a42, B42⟩, ⟨_, _, F43, PySem.W.mg_of X G a43, B43⟩, ⟨_, _, F44, PySem.W.mg_of X G a44, B44⟩, ⟨_, _, F45, PySem.W.mg_of X G a45, B45⟩, ⟨_, _, F46, PySem.W.mg_of X G a46, B46⟩, ⟨_, _, F47, PySem.W.mg_of X G a47, B47⟩, ⟨_, _, F48, PySem.W.mg_of X G a48, B48⟩, ⟨_, _, F49, PySem.W.mg_of X G a49, B49⟩, ⟨_, _, F50, PySem.W.mg_of X G a50, B50⟩, ⟨_, _, F51, PySem.W.mg_of X G a51, B51⟩, ⟨_, _, F52, PySem.W.mg_of X G a52, B52⟩, ⟨_, _, F53, PySem.W.mg_of X G a53, B53⟩, ⟨_, _, F54, PySem.W.mg_of X G a54, B54⟩, ⟨_, _, F55, PySem.W.mg_of X G a55, B55⟩, ⟨_, _, F56, PySem.W.mg_of X G a56, B56⟩⟩
  let Z : Exs K mg := ⟨CE, fun n => if n = "BadLogic" then cBadLogic else if n = "BadSheet" then cBadSheet else if n = "BadModel" then cBadModel else CE, PySem.W.mg_of X G a_CourtError, fun n hn => by
    simp only [allNames, List.mem_cons, List.not_mem_nil, or_false] at hn
    rcases hn with h | h | h
    · subst h; exact PySem.W.mg_of X G a_BadLogic
    · subst h; exact PySem.W.mg_of X G a_BadSheet
    · subst h; exact PySem.W.mg_of X G a_BadModel⟩
  have NBadModel : NF Z "BadModel" := by
    refine ⟨⟨gaBadModel, ggBadModel, bBadModel, h_BadModel, gcBadModel, spc, tkc, moBadModel⟩, fun n hn => ?_, kit_of t_CourtError h_CourtError s_BadModel_CourtError s_BadModel_BadModel, kit_val vBadModel, PySem.W.exm_ref bC h_CourtError t_CourtError s_BadModel_CourtError, PySem.W.exm_ref bBadModel h_BadModel t_BadModel s_BadModel_BadModel⟩
    simp only [allNames, List.mem_cons, List.not_mem_nil, or_false] at hn
    rcases hn with h | h | h
    · subst h; exact (kit_of t_BadLogic h_BadLogic s_BadModel_BadLogic s_BadModel_BadModel).trans (congrArg some (by decide +kernel))
    · subst h; exact (kit_of t_BadSheet h_BadSheet s_BadModel_BadSheet s_BadModel_BadModel).trans (congrArg some (by decide +kernel))
    · subst h; exact (kit_of t_BadModel h_BadModel s_BadModel_BadModel s_BadModel_BadModel).trans (congrArg some (by decide +kernel))
  have Z_BadModel : Er_BadModel Z := ⟨⟨xSBadModel, saBadModel, bBadModel, t_BadModel, kpBadModel⟩, _, _, iBadModel, tIBadModel, FEBadModel, BEBadModel, ⟨gaBadModel, ggBadModel, bBadModel, h_BadModel⟩, noBadModel, NBadModel⟩
  exact ⟨A.law.fd, fun s v => .of_eq rfl, fun base _ _ => ok_law A Z Z_BadModel⟩
end K10

set_option Elab.async false
set_option linter.all false
set_option maxRecDepth 100000
open PySem PySem.W PyProof.Rows
set_option maxRecDepth 100000 in
set_option maxHeartbeats 0 in
theorem PySem.Challenge.cw_provedorshown_k10_whole_arcs_told_by_sch_holds : PySem.Challenge.rw_provedorshown_k10_whole_arcs_told_by_sch.Holds := by
  w_on; o_law; k_head; (case hw => w_witness2)
  k_fill
  refine L2.walk_of (l := PySem.Challenge.rw_provedorshown_k10_whole_arcs_told_by_sch) (n := 63) (k := 16) (x := "script") (CX := fun _ => L2.CX0) (sp := fun w => K10.spLaw _) rfl (by decide) rfl ⟨rfl, by decide, by decide⟩ (fun w h Y => PySem.W.kIn_of Y) ?F (fun _ _ a ns hl _ hS => ⟨a, ns, rfl, hS, hl, fun _ => rfl⟩) (fun _ _ _ _ _ h => h)
  case F =>
    intro w mg fa h KX G hmg
    refine' K10.all_mk KX G hmg ?a1 ?l1 ?c1 ?k1 ?a2 ?l2 ?c2 ?k2 ?a3 ?l3 ?c3 ?k3 ?a4 ?l4 ?c4 ?k4 ?a5 ?l5 ?c5 ?k5 ?a6 ?l6 ?c6 ?k6 ?a7 ?l7 ?c7 ?k7 ?a8 ?l8 ?c8 ?k8 ?a9 ?l9 ?c9 ?k9 ?a10 ?l10 ?c10 ?k10 ?a11 ?l11 ?c11 ?k11 ?a12 ?l12 ?c12 ?k12 ?a13 ?l13 ?c13 ?k13 ?a14 ?l14 ?c14 ?k14 ?a15 ?l15 ?c15 ?k15 ?a16 ?l16 ?c16 ?k16 ?a17 ?l17 ?c17 ?k17 ?a18 ?l18 ?c18 ?k18 ?a19 ?l19 ?c19 ?k19 ?a20 ?l20 ?c20 ?k20 ?a21 ?l21 ?c21 ?k21 ?a22 ?l22 ?c22 ?k22 ?a23 ?l23 ?c23 ?k23 ?a24 ?l24 ?c24 ?k24 ?a25 ?l25 ?c25 ?k25 ?a26 ?l26 ?c26 ?k26 ?a27 ?l27 ?c27 ?k27 ?a28 ?l28 ?c28 ?k28 ?a29 ?l29 ?c29 ?k29 ?a30 ?l30 ?c30 ?k30 ?a31 ?l31 ?c31 ?k31 ?a32 ?l32 ?c32 ?k32 ?a33 ?l33 ?c33 ?k33 ?a34 ?l34 ?c34 ?k34 ?a35 ?l35 ?c35 ?k35 ?a36 ?l36 ?c36 ?k36 ?a37 ?l37 ?c37 ?k37 ?a38 ?l38 ?c38 ?k38 ?a39 ?l39 ?c39 ?k39 ?a40 ?l40 ?c40 ?k40 ?a41 ?l41 ?c41 ?k41 ?a42 ?l42 ?c42 ?k42 ?a43 ?l43 ?c43 ?k43 ?a44 ?l44 ?c44 ?k44 ?a45 ?l45 ?c45 ?k45 ?a46 ?l46 ?c46 ?k46 ?a47 ?l47 ?c47 ?k47 ?a48 ?l48 ?c48 ?k48 ?a49 ?l49 ?c49 ?k49 ?a50 ?l50 ?c50 ?k50 ?a51 ?l51 ?c51 ?k51 ?a52 ?l52 ?c52 ?k52 ?a53 ?l53 ?c53 ?k53 ?a54 ?l54 ?c54 ?k54 ?a55 ?l55 ?c55 ?k55 ?a56 ?l56 ?c56 ?k56 ?z_ValueError ?z_abs ?z_all ?z_bool ?z_dict ?z_enumerate ?z_int ?z_isinstance ?z_len ?z_list ?z_min ?z_range ?z_str ?z_tuple ?aIt ?lIt ?eIt ?kIt ?sIt ?n_LAST_LETTER ?n_MOST_PAPER_ROWS ?n_MOST_WORLDS ?n_LETTERS ?n_LOGICS ?l_LOGICS ?n_MODAL ?l_MODAL ?a_BadLogic ?a_BadSheet ?a_BadModel ?a_CourtError ?t_BadLogic ?h_BadLogic ?t_BadSheet ?h_BadSheet ?t_BadModel ?h_BadModel ?t_CourtError ?h_CourtError ?bC ?spc ?tkc ?s_BadModel_BadLogic ?s_BadModel_BadSheet ?s_BadModel_BadModel ?s_BadModel_CourtError ?vBadModel ?bBadModel ?gaBadModel ?ggBadModel ?gcBadModel ?moBadModel ?kpBadModel ?xSBadModel ?saBadModel ?noBadModel ?iBadModel ?tIBadModel ?lEBadModel ?cEBadModel ?kEBadModel
    (case a1 => k_is)
    (case l1 => k_is)
    (case c1 => k_is)
    (case k1 => k_is)
    (case a2 => k_is)
    (case l2 => k_is)
    (case c2 => k_is)
    (case k2 => k_is)
    (case a3 => k_is)
    (case l3 => k_is)
    (case c3 => k_is)
    (case k3 => k_is)
    (case a4 => k_is)
    (case l4 => k_is)
    (case c4 => k_is)
    (case k4 => k_is)
    (case a5 => k_is)
    (case l5 => k_is)
    (case c5 => k_is)
    (case k5 => k_is)
    (case a6 => k_is)
    (case l6 => k_is)
    (case c6 => k_is)
    (case k6 => k_is)
    (case a7 => k_is)
    (case l7 => k_is)
    (case c7 => k_is)
    (case k7 => k_is)
    (case a8 => k_is)
    (case l8 => k_is)
    (case c8 => k_is)
    (case k8 => k_is)
    (case a9 => k_is)
    (case l9 => k_is)
    (case c9 => k_is)
    (case k9 => k_is)
    (case a10 => k_is)
    (case l10 => k_is)
    (case c10 => k_is)
    (case k10 => k_is)
    (case a11 => k_is)
    (case l11 => k_is)
    (case c11 => k_is)
    (case k11 => k_is)
    (case a12 => k_is)
    (case l12 => k_is)
    (case c12 => k_is)
    (case k12 => k_is)
    (case a13 => k_is)
    (case l13 => k_is)
    (case c13 => k_is)
    (case k13 => k_is)
    (case a14 => k_is)
    (case l14 => k_is)
    (case c14 => k_is)
    (case k14 => k_is)
    (case a15 => k_is)
    (case l15 => k_is)
    (case c15 => k_is)
    (case k15 => k_is)
    (case a16 => k_is)
    (case l16 => k_is)
    (case c16 => k_is)
    (case k16 => k_is)
    (case a17 => k_is)
    (case l17 => k_is)
    (case c17 => k_is)
    (case k17 => k_is)
    (case a18 => k_is)
    (case l18 => k_is)
    (case c18 => k_is)
    (case k18 => k_is)
    (case a19 => k_is)
    (case l19 => k_is)
    (case c19 => k_is)
    (case k19 => k_is)
    (case a20 => k_is)
    (case l20 => k_is)
    (case c20 => k_is)
    (case k20 => k_is)
    (case a21 => k_is)
    (case l21 => k_is)
    (case c21 => k_is)
    (case k21 => k_is)
    (case a22 => k_is)
    (case l22 => k_is)
    (case c22 => k_is)
    (case k22 => k_is)
    (case a23 => k_is)
    (case l23 => k_is)
    (case c23 => k_is)
    (case k23 => k_is)
    (case a24 => k_is)
    (case l24 => k_is)
    (case c24 => k_is)
    (case k24 => k_is)
    (case a25 => k_is)
    (case l25 => k_is)
    (case c25 => k_is)
    (case k25 => k_is)
    (case a26 => k_is)
    (case l26 => k_is)
    (case c26 => k_is)
    (case k26 => k_is)
    (case a27 => k_is)
    (case l27 => k_is)
    (case c27 => k_is)
    (case k27 => k_is)
    (case a28 => k_is)
    (case l28 => k_is)
    (case c28 => k_is)
    (case k28 => k_is)
    (case a29 => k_is)
    (case l29 => k_is)
    (case c29 => k_is)
    (case k29 => k_is)
    (case a30 => k_is)
    (case l30 => k_is)
    (case c30 => k_is)
    (case k30 => k_is)
    (case a31 => k_is)
    (case l31 => k_is)
    (case c31 => k_is)
    (case k31 => k_is)
    (case a32 => k_is)
    (case l32 => k_is)
    (case c32 => k_is)
    (case k32 => k_is)
    (case a33 => k_is)
    (case l33 => k_is)
    (case c33 => k_is)
    (case k33 => k_is)
    (case a34 => k_is)
    (case l34 => k_is)
    (case c34 => k_is)
    (case k34 => k_is)
    (case a35 => k_is)
    (case l35 => k_is)
    (case c35 => k_is)
    (case k35 => k_is)
    (case a36 => k_is)
    (case l36 => k_is)
    (case c36 => k_is)
    (case k36 => k_is)
    (case a37 => k_is)
    (case l37 => k_is)
    (case c37 => k_is)
    (case k37 => k_is)
    (case a38 => k_is)
    (case l38 => k_is)
    (case c38 => k_is)
    (case k38 => k_is)
    (case a39 => k_is)
    (case l39 => k_is)
    (case c39 => k_is)
    (case k39 => k_is)
    (case a40 => k_is)
    (case l40 => k_is)
    (case c40 => k_is)
    (case k40 => k_is)
    (case a41 => k_is)
    (case l41 => k_is)
    (case c41 => k_is)
    (case k41 => k_is)
    (case a42 => k_is)
    (case l42 => k_is)
    (case c42 => k_is)
    (case k42 => k_is)
    (case a43 => k_is)
    (case l43 => k_is)
    (case c43 => k_is)
    (case k43 => k_is)
    (case a44 => k_is)
    (case l44 => k_is)
    (case c44 => k_is)
    (case k44 => k_is)
    (case a45 => k_is)
    (case l45 => k_is)
    (case c45 => k_is)
    (case k45 => k_is)
    (case a46 => k_is)
    (case l46 => k_is)
    (case c46 => k_is)
    (case k46 => k_is)
    (case a47 => k_is)
    (case l47 => k_is)
    (case c47 => k_is)
    (case k47 => k_is)
    (case a48 => k_is)
    (case l48 => k_is)
    (case c48 => k_is)
    (case k48 => k_is)
    (case a49 => k_is)
    (case l49 => k_is)
    (case c49 => k_is)
    (case k49 => k_is)
    (case a50 => k_is)
    (case l50 => k_is)
    (case c50 => k_is)
    (case k50 => k_is)
    (case a51 => k_is)
    (case l51 => k_is)
    (case c51 => k_is)
    (case k51 => k_is)
    (case a52 => k_is)
    (case l52 => k_is)
    (case c52 => k_is)
    (case k52 => k_is)
    (case a53 => k_is)
    (case l53 => k_is)
    (case c53 => k_is)
    (case k53 => k_is)
    (case a54 => k_is)
    (case l54 => k_is)
    (case c54 => k_is)
    (case k54 => k_is)
    (case a55 => k_is)
    (case l55 => k_is)
    (case c55 => k_is)
    (case k55 => k_is)
    (case a56 => k_is)
    (case l56 => k_is)
    (case c56 => k_is)
    (case k56 => k_is)
    (case z_ValueError => k_is)
    (case z_abs => k_is)
    (case z_all => k_is)
    (case z_bool => k_is)
    (case z_dict => k_is)
    (case z_enumerate => k_is)
    (case z_int => k_is)
    (case z_isinstance => k_is)
    (case z_len => k_is)
    (case z_list => k_is)
    (case z_min => k_is)
    (case z_range => k_is)
    (case z_str => k_is)
    (case z_tuple => k_is)
    (case aIt => k_is)
    (case lIt => k_is)
    (case eIt => rfl)
    (case kIt => k_keys)
    (case sIt => decide)
    (case n_LAST_LETTER => k_is)
    (case n_MOST_PAPER_ROWS => k_is)
    (case n_MOST_WORLDS => k_is)
    (case n_LETTERS => k_is)
    (case n_LOGICS => k_is)
    (case l_LOGICS => k_is)
    (case n_MODAL => k_is)
    (case l_MODAL => k_is)
    (case a_BadLogic => k_is)
    (case a_BadSheet => k_is)
    (case a_BadModel => k_is)
    (case a_CourtError => k_is)
    (case t_BadLogic => k_is)
    (case h_BadLogic => k_is)
    (case t_BadSheet => k_is)
    (case h_BadSheet => k_is)
    (case t_BadModel => k_is)
    (case h_BadModel => k_is)
    (case t_CourtError => k_is)
    (case h_CourtError => k_is)
    (case bC => k_is)
    (case spc => k_is)
    (case tkc => k_is)
    (case s_BadModel_BadLogic => k_is)
    (case s_BadModel_BadSheet => k_is)
    (case s_BadModel_BadModel => k_is)
    (case s_BadModel_CourtError => k_is)
    (case vBadModel => k_is)
    (case bBadModel => k_is)
    (case gaBadModel => k_is)
    (case ggBadModel => k_is)
    (case gcBadModel => k_is)
    (case moBadModel => k_is)
    (case kpBadModel => k_is)
    (case xSBadModel => exact ⟨_, _, _, _, _, _, _, _, _, _, _, _, _, _, _, by k_is, by decide +kernel⟩)
    (case saBadModel => k_is)
    (case noBadModel => k_is)
    (case iBadModel => k_is)
    (case tIBadModel => k_is)
    (case lEBadModel => k_is)
    (case cEBadModel => k_is)
    (case kEBadModel => k_is)

