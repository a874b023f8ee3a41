import PyProof.Rows.All
import Wide.All
import OpenK.AllK
import Wide.FinOn
import HandS.ForMost
import HandS.IsInst
import HandS.Codes
import HandS.More
import HandS.TupMul
import HandS.ExcCtx
import HandS.Hot
import HandS.HotCalls
import HandS.ExcIs
import HandS.ExcField
import HandS.ExcInit
import HandS.SetFor
import HandS.Deep
import HandS.Style
import HandS.SortInts
import HandS.Strs
import HandS.TupSets
import HandS.Sort
import HandS.Text
import PySem.Challenge.RW_provedorshown_k89_whole_least_crossing_s
import HandS.Conv
set_option Elab.async false
set_option linter.all false
set_option maxRecDepth 100000
set_option maxHeartbeats 4000000
/-! LLib: what the proofs of several laws share. Heaps that grow while the addresses of M may change; plain data; the spec of a sheet. -/
namespace LL
open PySem PySem.Spec PyProof.Rows L2

theorem iteB {b : Bool} {A B : Prop} (h1 : b = true → A) (h2 : b = false → B) : if b = true then A else B := by
  cases b with
  | true => rw [if_pos rfl]; exact h1 rfl
  | false => rw [if_neg Bool.false_ne_true]; exact h2 rfl
theorem iteY {b : Bool} {A B : Prop} (hb : b = true) (h : A) : if b = true then A else B := by rw [if_pos hb]; exact h
theorem iteN {b : Bool} {A B : Prop} (hb : b = false) (h : B) : if b = true then A else B := by rw [hb, if_neg Bool.false_ne_true]; exact h

/-! ### heaps -/
def Adv (M : List Addr) (H H' : Hp) : Prop := ∀ b o, b ∉ M → H b = some o → H' b = some o
section
variable {M N : List Addr} {H H1 H2 H' : Hp} {p : Addr} {o u : HO}
theorem Adv.refl (M : List Addr) (H : Hp) : Adv M H H := fun _ _ _ h => h
theorem Adv.trans (a : Adv M H H1) (b : Adv M H1 H2) : Adv M H H2 := fun c o hc h => b c o hc (a c o hc h)
theorem Adv.more (a : Adv M H H') (h : ∀ b ∈ M, b ∈ N) : Adv N H H' := fun c o hc e => a c o (fun z => hc (h c z)) e
theorem Adv.new (h : H p = none) : Adv M H (upd H p o) := fun b u _ e => by
  rw [upd_ne (ne_of_none e h)]
  exact e
theorem Adv.set (h : p ∈ M) : Adv M H (upd H p o) := fun b u hb e => by
  rw [upd_ne (fun z => hb (by rw [z]; exact h))]
  exact e
theorem Adv.newT (a : Adv M H H1) (h : H1 p = none) : Adv M H (upd H1 p o) := a.trans (Adv.new h)
theorem Adv.setT (a : Adv M H H1) (h : p ∈ M) : Adv M H (upd H1 p o) := a.trans (Adv.set h)
/-- a change at an address that H does not know -/
theorem Adv.mut (a : Adv M H H1) (h : H p = none) : Adv M H (upd H1 p o) := fun b u hb e => by
  rw [upd_ne (ne_of_none e h)]
  exact a b u hb e
theorem Adv.free (a : Adv M H H') (hp : p ∉ M) (h : H' p = none) : H p = none := by
  cases q : H p with
  | none => rfl
  | some o =>
    rw [a p o hp q] at h
    cases h
theorem Adv.same (a : Adv [] H H') : Same H H' := fun b o e => a b o (by simp) e
theorem Adv.ofSame (a : Same H H') : Adv M H H' := fun b o _ e => a b o e
theorem Adv.get (a : Adv M H H') (e : H p = some o) (hp : p ∉ M) : H' p = some o := a p o hp e
/-- M's last address is new: it need not be told -/
theorem Adv.drop (a : Adv (p :: M) H H') (h : H p = none) : Adv M H H' := fun b u hb e => a b u (fun z => by
  rcases List.mem_cons.mp z with z | z
  · rw [z, h] at e; cases e
  · exact hb z) e
end
theorem ne_lst_ints {l : Addr} {c k : Int} {ns : List Int} : HO.lst [V.ref l, .int c, .int k] ≠ HO.lst (ns.map V.int) := by
  intro e
  have e2 : [V.ref l, .int c, .int k] = ns.map V.int := by injection e
  cases ns with
  | nil => cases e2
  | cons n r =>
    rw [List.map_cons] at e2
    injection e2 with h _
    cases h

/-! ### plain data -/
/-- the tuples of the written part (they never change), and how a key of parts is hashed -/
class KW where
  tp : Addr → List V → Prop
  hs : List Key → Int
/-- a tuple: tracked, or one of the written part -/
def Tp [KW] (M : List Addr) (H : Hp) (a : Addr) (vs : List V) : Prop := (a ∉ M ∧ H a = some (.tup vs)) ∨ KW.tp a vs
section
variable [KW]
mutual
def Is (M : List Addr) (H : Hp) : PyData → V → Prop
  | .none, v => v = .non
  | .bool b, v => v = .bl b
  | .int i, v => v = .int i
  | .str x, v => v = .str x
  | .list ds, v => ∃ a vs, v = .ref a ∧ a ∉ M ∧ H a = some (.lst vs) ∧ IsDs M H ds vs
  | .tuple ds, v => ∃ a vs, v = .ref a ∧ Tp M H a vs ∧ IsDs M H ds vs
  | .dict kvs, v => kvs = [] ∧ ∃ a, v = .ref a ∧ a ∉ M ∧ H a = some (.dK [])
def IsDs (M : List Addr) (H : Hp) : List PyData → List V → Prop
  | [], vs => vs = []
  | d :: ds, vs => ∃ v r, vs = v :: r ∧ Is M H d v ∧ IsDs M H ds r
end
section
variable {M N : List Addr} {H H' : Hp} {p : Addr}
theorem Tp.imp (h : ∀ b o, b ∉ M → H b = some o → b ∉ N ∧ H' b = some o) {a : Addr} {vs : List V} (x : Tp M H a vs) : Tp N H' a vs := by
  rcases x with ⟨na, ha⟩ | x
  · exact .inl ⟨(h a _ na ha).1, (h a _ na ha).2⟩
  · exact .inr x
theorem Tp.adv {a : Addr} {vs : List V} (x : Tp M H a vs) (e : Adv M H H') : Tp M H' a vs := x.imp fun b o hb z => ⟨hb, e b o hb z⟩
theorem Tp.less {a : Addr} {vs : List V} (x : Tp M H a vs) (h : ∀ b ∈ N, b ∈ M) : Tp N H a vs := x.imp fun b o hb z => ⟨fun y => hb (h b y), z⟩
theorem Tp.fresh {a : Addr} {vs : List V} (x : Tp M H a vs) (h : H p = none) : Tp (p :: M) H a vs := x.imp fun b o hb e => ⟨fun z => (List.mem_cons.mp z).elim (ne_of_none e h) hb, e⟩
theorem Tp.of {a : Addr} {vs : List V} (h : H a = some (.tup vs)) (na : a ∉ M) : Tp M H a vs := .inl ⟨na, h⟩
mutual
theorem Is.imp (h : ∀ b o, b ∉ M → H b = some o → b ∉ N ∧ H' b = some o) : ∀ (d : PyData) (v : V), Is M H d v → Is N H' d v
  | .none, v, x => by unfold Is at x ⊢; exact x
  | .bool _, v, x => by unfold Is at x ⊢; exact x
  | .int _, v, x => by unfold Is at x ⊢; exact x
  | .str _, v, x => by unfold Is at x ⊢; exact x
  | .list ds, v, x => by
    unfold Is at x ⊢
    obtain ⟨a, vs, rfl, na, ha, hs⟩ := x
    exact ⟨a, vs, rfl, (h a _ na ha).1, (h a _ na ha).2, IsDs.imp h ds vs hs⟩
  | .tuple ds, v, x => by
    unfold Is at x ⊢
    obtain ⟨a, vs, rfl, ha, hs⟩ := x
    exact ⟨a, vs, rfl, ha.imp h, IsDs.imp h ds vs hs⟩
  | .dict kvs, v, x => by
    unfold Is at x ⊢
    obtain ⟨rfl, a, rfl, na, ha⟩ := x
    exact ⟨rfl, a, rfl, (h a _ na ha).1, (h a _ na ha).2⟩
theorem IsDs.imp (h : ∀ b o, b ∉ M → H b = some o → b ∉ N ∧ H' b = some o) : ∀ (ds : List PyData) (vs : List V), IsDs M H ds vs → IsDs N H' ds vs
  | [], vs, x => by unfold IsDs at x ⊢; exact x
  | d :: ds, vs, x => by
    unfold IsDs at x ⊢
    obtain ⟨v, r, rfl, h1, h2⟩ := x
    exact ⟨v, r, rfl, Is.imp h d v h1, IsDs.imp h ds r h2⟩
end
theorem Is.adv {d : PyData} {v : V} (x : Is M H d v) (a : Adv M H H') : Is M H' d v := Is.imp (fun b o hb e => ⟨hb, a b o hb e⟩) d v x
theorem IsDs.adv {ds : List PyData} {vs : List V} (x : IsDs M H ds vs) (a : Adv M H H') : IsDs M H' ds vs := IsDs.imp (fun b o hb e => ⟨hb, a b o hb e⟩) ds vs x
theorem Is.less {d : PyData} {v : V} (x : Is M H d v) (h : ∀ b ∈ N, b ∈ M) : Is N H d v := Is.imp (fun b o hb e => ⟨fun z => hb (h b z), e⟩) d v x
theorem IsDs.less {ds : List PyData} {vs : List V} (x : IsDs M H ds vs) (h : ∀ b ∈ N, b ∈ M) : IsDs N H ds vs := IsDs.imp (fun b o hb e => ⟨fun z => hb (h b z), e⟩) ds vs x
theorem Is.fresh {d : PyData} {v : V} (x : Is M H d v) (h : H p = none) : Is (p :: M) H d v := Is.imp (fun b o hb e => ⟨fun z => (List.mem_cons.mp z).elim (ne_of_none e h) hb, e⟩) d v x
theorem IsDs.fresh {ds : List PyData} {vs : List V} (x : IsDs M H ds vs) (h : H p = none) : IsDs (p :: M) H ds vs := IsDs.imp (fun b o hb e => ⟨fun z => (List.mem_cons.mp z).elim (ne_of_none e h) hb, e⟩) ds vs x
theorem IsDs.len : ∀ {ds : List PyData} {vs : List V}, IsDs M H ds vs → vs.length = ds.length
  | [], vs, x => by unfold IsDs at x; rw [x]; rfl
  | d :: ds, vs, x => by
    unfold IsDs at x
    obtain ⟨v, r, rfl, _, h2⟩ := x
    rw [List.length_cons, List.length_cons, h2.len]
theorem IsDs.get : ∀ {ds : List PyData} {vs : List V} {i : Nat} {d : PyData}, IsDs M H ds vs → ds[i]? = some d → ∃ v, vs[i]? = some v ∧ Is M H d v
  | [], vs, i, d, x, e => by simp at e
  | c :: ds, vs, 0, d, x, e => by
    unfold IsDs at x
    obtain ⟨v, r, rfl, h1, h2⟩ := x
    have e' : c = d := Option.some.inj e
    subst e'
    exact ⟨v, rfl, h1⟩
  | c :: ds, vs, i + 1, d, x, e => by
    unfold IsDs at x
    obtain ⟨v, r, rfl, h1, h2⟩ := x
    exact h2.get (i := i) (by simpa using e)
theorem IsDs.getV : ∀ {ds : List PyData} {vs : List V} {i : Nat} {v : V}, IsDs M H ds vs → vs[i]? = some v → ∃ d, ds[i]? = some d ∧ Is M H d v := fun {ds vs i v} x e => by
  have hi : i < ds.length := by rw [← x.len]; exact (List.getElem?_eq_some_iff.mp e).1
  obtain ⟨w, e2, h⟩ := x.get (List.getElem?_eq_getElem hi)
  rw [e] at e2
  cases e2
  exact ⟨_, List.getElem?_eq_getElem hi, h⟩
theorem IsDs.app : ∀ {ds es : List PyData} {vs ws : List V}, IsDs M H ds vs → IsDs M H es ws → IsDs M H (ds ++ es) (vs ++ ws)
  | [], es, vs, ws, x, y => by unfold IsDs at x; subst x; exact y
  | d :: ds, es, vs, ws, x, y => by
    unfold IsDs at x
    obtain ⟨v, r, rfl, h1, h2⟩ := x
    show IsDs M H (d :: (ds ++ es)) (v :: (r ++ ws))
    unfold IsDs
    exact ⟨v, r ++ ws, rfl, h1, h2.app y⟩
theorem IsDs.one {d : PyData} {v : V} (x : Is M H d v) : IsDs M H [d] [v] := by
  unfold IsDs
  exact ⟨v, [], rfl, x, by unfold IsDs; rfl⟩
theorem IsDs.nil : IsDs M H [] [] := by unfold IsDs; rfl
theorem IsDs.cons {d : PyData} {v : V} {ds : List PyData} {vs : List V} (x : Is M H d v) (y : IsDs M H ds vs) : IsDs M H (d :: ds) (v :: vs) := by
  unfold IsDs
  exact ⟨v, vs, rfl, x, y⟩
theorem IsDs.set : ∀ {ds : List PyData} {vs : List V} {i : Nat} {d : PyData} {v : V}, IsDs M H ds vs → Is M H d v → IsDs M H (ds.set i d) (vs.set i v)
  | [], vs, i, d, v, x, y => by unfold IsDs at x; subst x; exact .nil
  | c :: ds, vs, 0, d, v, x, y => by
    unfold IsDs at x
    obtain ⟨w, r, rfl, h1, h2⟩ := x
    exact .cons y h2
  | c :: ds, vs, i + 1, d, v, x, y => by
    unfold IsDs at x
    obtain ⟨w, r, rfl, h1, h2⟩ := x
    exact .cons h1 (h2.set y)
theorem IsDs.drop : ∀ {ds : List PyData} {vs : List V} (i : Nat), IsDs M H ds vs → IsDs M H (ds.drop i) (vs.drop i)
  | ds, vs, 0, x => x
  | [], vs, i + 1, x => by unfold IsDs at x; subst x; exact .nil
  | c :: ds, vs, i + 1, x => by
    unfold IsDs at x
    obtain ⟨w, r, rfl, h1, h2⟩ := x
    exact h2.drop i
theorem Is.int {i : Int} : Is M H (.int i) (.int i) := by unfold Is; rfl
theorem Is.str {x : Str} : Is M H (.str x) (.str x) := by unfold Is; rfl
theorem Is.bl {b : Bool} : Is M H (.bool b) (.bl b) := by unfold Is; rfl
theorem Is.non : Is M H .none .non := by unfold Is; rfl
theorem Is.lst {a : Addr} {ds : List PyData} {vs : List V} (h : H a = some (.lst vs)) (hn : a ∉ M) (x : IsDs M H ds vs) : Is M H (.list ds) (.ref a) := by
  unfold Is
  exact ⟨a, vs, rfl, hn, h, x⟩
theorem Is.tup {a : Addr} {ds : List PyData} {vs : List V} (h : H a = some (.tup vs)) (hn : a ∉ M) (x : IsDs M H ds vs) : Is M H (.tuple ds) (.ref a) := by
  unfold Is
  exact ⟨a, vs, rfl, .inl ⟨hn, h⟩, x⟩
theorem Is.tp {a : Addr} {ds : List PyData} {vs : List V} (h : Tp M H a vs) (x : IsDs M H ds vs) : Is M H (.tuple ds) (.ref a) := by
  unfold Is
  exact ⟨a, vs, rfl, h, x⟩
theorem Is.dic {a : Addr} (h : H a = some (.dK [])) (hn : a ∉ M) : Is M H (.dict []) (.ref a) := by
  unfold Is
  exact ⟨rfl, a, rfl, hn, h⟩
theorem Is.intE {i : Int} {v : V} (x : Is M H (.int i) v) : v = .int i := by unfold Is at x; exact x
theorem Is.strE {i : Str} {v : V} (x : Is M H (.str i) v) : v = .str i := by unfold Is at x; exact x
theorem Is.blE {i : Bool} {v : V} (x : Is M H (.bool i) v) : v = .bl i := by unfold Is at x; exact x
theorem Is.nonE {v : V} (x : Is M H .none v) : v = .non := by unfold Is at x; exact x
theorem Is.lstE {ds : List PyData} {v : V} (x : Is M H (.list ds) v) : ∃ a vs, v = .ref a ∧ a ∉ M ∧ H a = some (.lst vs) ∧ IsDs M H ds vs := by unfold Is at x; exact x
theorem Is.tupE {ds : List PyData} {v : V} (x : Is M H (.tuple ds) v) : ∃ a vs, v = .ref a ∧ Tp M H a vs ∧ IsDs M H ds vs := by unfold Is at x; exact x
theorem Is.dicE {kvs : List (PyData × PyData)} {v : V} (x : Is M H (.dict kvs) v) : kvs = [] ∧ ∃ a, v = .ref a ∧ a ∉ M ∧ H a = some (.dK []) := by unfold Is at x; exact x
end
end
mutual
/-- how many values a datum has, itself among them -/
def sz : PyData → Nat
  | .list ds => 1 + szL ds
  | .tuple ds => 1 + szL ds
  | _ => 1
def szL : List PyData → Nat
  | [] => 0
  | d :: ds => sz d + szL ds
end
mutual
def dep : PyData → Nat
  | .list ds => 1 + depL ds
  | .tuple ds => 1 + depL ds
  | _ => 0
def depL : List PyData → Nat
  | [] => 0
  | d :: ds => max (dep d) (depL ds)
end
theorem sz_pos : ∀ d : PyData, 1 ≤ sz d
  | .none => by unfold sz; exact Nat.le_refl _
  | .bool _ => by unfold sz; exact Nat.le_refl _
  | .int _ => by unfold sz; exact Nat.le_refl _
  | .str _ => by unfold sz; exact Nat.le_refl _
  | .list ds => by unfold sz; omega
  | .tuple ds => by unfold sz; omega
  | .dict _ => by unfold sz; exact Nat.le_refl _
theorem szL_nil : szL [] = 0 := by rw [szL]
theorem szL_cons (d : PyData) (ds : List PyData) : szL (d :: ds) = sz d + szL ds := by rw [szL]
theorem szL_app : ∀ ds es : List PyData, szL (ds ++ es) = szL ds + szL es
  | [], es => by rw [List.nil_append, szL_nil, Nat.zero_add]
  | d :: ds, es => by rw [List.cons_append, szL_cons, szL_cons, szL_app ds es, Nat.add_assoc]
theorem dep_mem : ∀ {ds : List PyData} {d : PyData}, d ∈ ds → dep d ≤ depL ds
  | c :: ds, d, h => by
    unfold depL
    rcases List.mem_cons.mp h with e | h
    · rw [e]; exact Nat.le_max_left _ _
    · exact Nat.le_trans (dep_mem h) (Nat.le_max_right _ _)

/-! ### the stream of draws -/
/-- a stream stands at s: the script's copy (none of M), the cell's rest, the next cell's number -/
def StrAt (M : List Addr) (H : Hp) (s : Addr) : Prop := ∃ (l : Addr) (ns : List Int) (c k : Int), H s = some (.lst [V.ref l, .int c, .int k]) ∧ H l = some (.lst (ns.map V.int)) ∧ 0 ≤ c ∧ 0 ≤ k ∧ l ∉ M
section
variable {M N : List Addr} {H H' : Hp} {s p : Addr}
theorem StrAt.adv (x : StrAt M H s) (a : Adv N H H') (hs : s ∉ N) (hn : ∀ b ∈ N, b ∈ M) : StrAt M H' s := by
  obtain ⟨l, ns, c, k, h1, h2, h3, h4, h5⟩ := x
  exact ⟨l, ns, c, k, a _ _ hs h1, a _ _ (fun z => h5 (hn l z)) h2, h3, h4, h5⟩
theorem StrAt.same (x : StrAt M H s) (a : Adv [] H H') : StrAt M H' s := x.adv a (by simp) (fun b z => by simp at z)
theorem StrAt.fresh (x : StrAt M H s) (h : H p = none) : StrAt (p :: M) H s := by
  obtain ⟨l, ns, c, k, h1, h2, h3, h4, h5⟩ := x
  exact ⟨l, ns, c, k, h1, h2, h3, h4, fun z => (List.mem_cons.mp z).elim (ne_of_none h2 h) h5⟩
theorem StrAt.less (x : StrAt M H s) (h : ∀ b ∈ N, b ∈ M) : StrAt N H s := by
  obtain ⟨l, ns, c, k, h1, h2, h3, h4, h5⟩ := x
  exact ⟨l, ns, c, k, h1, h2, h3, h4, fun z => h5 (h l z)⟩
theorem StrAt.here (x : StrAt M H s) : H s ≠ none := by
  obtain ⟨l, ns, c, k, h1, _⟩ := x
  rw [h1]
  simp
end

/-! ### defs -/
/-- a def of the text where it stands behind the top -/
structure Df (K : PySem.W.Frag) (mg : Str → Option Value) (x : Str) (st : Stmt) (ps : List Str) where
  f : Addr
  fd : FuncData
  F : Fun K x x st f fd
  m : mg x = some (.ref f)
  b : Binds K fd ps []
theorem ix_or {X : Cx} {r r' : R2} (h : IxR X r) (h' : IxR X r') : IxR X (fun x y H Q => r x y H Q ∨ r' x y H Q) := by
  intro value slice pins s σ H x y v u Q I rx ry q e
  rcases q with q | q
  · exact h value slice pins s σ H x y v u Q I rx ry q e
  · exact h' value slice pins s σ H x y v u Q I rx ry q e
theorem call_or {X : Cx} {f : Value} {r r' : List V → Hp → VK → Prop} (h : CallR X f r) (h' : CallR X f r') : CallR X f (fun xs H Q => r xs H Q ∨ r' xs H Q) := by
  intro pins s σ H xs us Q I rx q
  rcases q with q | q
  · exact h pins s σ H xs us Q I rx q
  · exact h' pins s σ H xs us Q I rx q
theorem ix_any {X : Cx} (K : PySem.W.Frag) (h : X.K = K) : IxR X (fun x y H Q => rIxL K x y H Q ∨ rIxT K x y H Q) := by
  subst h
  exact ix_or ix_list ix_tup
end LL

set_option Elab.async false
set_option linter.all false
set_option maxRecDepth 100000
set_option maxHeartbeats 4000000
/-! LSpec: kinds of data; what a node and a sheet are -/
namespace LL
open PySem PySem.Spec PyProof.Rows L2
def tyN : PyData → String
  | .none => "NoneType"
  | .bool _ => "bool"
  | .int _ => "int"
  | .str _ => "str"
  | .list _ => "list"
  | .tuple _ => "tuple"
  | .dict _ => "dict"
/-- what the written part says of the tuples and of the hash -/
structure KWOk [KW] (K : PySem.W.Frag) (w : World) : Prop where
  tp : ∀ a vs, KW.tp a vs → ∃ (o : Obj) (its : Array Value) (n : Nat), K.lookup a = some o ∧ o.cls = .type "tuple" ∧ o.data = .seq its n ∧ its.size ≤ sizeLine ∧ Vals vs its.toList
  hs : ∀ (P : Program) (ks : List Key), KW.hs ks = (tupleKind (mixKind P w)).hash ks
section
variable [KW]
theorem Tp.sq {K : PySem.W.Frag} {w : World} (W : KWOk K w) {M : List Addr} {H : Hp} {a : Addr} {vs : List V} (x : Tp M H a vs) : SqT K H a vs := by
  rcases x with ⟨_, h⟩ | h
  · exact SqT.of h
  · exact .inr (W.tp a vs h)
theorem Is.ty {K : PySem.W.Frag} {w : World} (W : KWOk K w) {M : List Addr} {H : Hp} : ∀ {d : PyData} {v : V}, Is M H d v → TyX K H v (.type (tyN d))
  | .none, v, x => by rw [x.nonE]; exact .base .non
  | .bool _, v, x => by rw [x.blE]; exact .base (.bl _)
  | .int _, v, x => by rw [x.intE]; exact .base (.int _)
  | .str _, v, x => by rw [x.strE]; exact .base (.str _)
  | .list _, v, x => by
    obtain ⟨a, vs, rfl, _, h, _⟩ := x.lstE
    exact .base (.lst h)
  | .tuple _, v, x => by
    obtain ⟨a, vs, rfl, h, _⟩ := x.tupE
    rcases h with ⟨_, h⟩ | h
    · exact .base (.tup h)
    · obtain ⟨o, its, n, h1, h2, _⟩ := W.tp a vs h
      exact .kTuple h1 h2
  | .dict _, v, x => by
    obtain ⟨_, a, rfl, _, h⟩ := x.dicE
    exact .base (.dK h)
end
/-- isinstance(v, one of the six built-in kinds) -/
def kitD (d : PyData) (n : String) : Bool := match d with
  | .bool _ => n == "bool" || n == "int"
  | d => n == tyN d
theorem kit_one {K : PySem.W.Frag} (d : PyData) (n : String) (h : n = "int" ∨ n = "bool" ∨ n = "str" ∨ n = "list" ∨ n = "tuple" ∨ n = "dict") : PySem.W.kitOne K (.type (tyN d)) (.type n) = some (kitD d n) := by
  refine kit_ty ?_
  have fin : ∀ t ∈ ["NoneType", "bool", "int", "str", "list", "tuple", "dict"], ∀ n ∈ ["int", "bool", "str", "list", "tuple", "dict"], kitB t n = some (if t = "bool" then (n == "bool" || n == "int") else n == t) := by decide +kernel
  have hn : n ∈ ["int", "bool", "str", "list", "tuple", "dict"] := by simpa using h
  cases d with
  | bool b => exact fin "bool" (by simp) n hn
  | none => exact fin "NoneType" (by simp) n hn
  | int i => exact fin "int" (by simp) n hn
  | str i => exact fin "str" (by simp) n hn
  | list i => exact fin "list" (by simp) n hn
  | tuple i => exact fin "tuple" (by simp) n hn
  | dict i => exact fin "dict" (by simp) n hn
theorem k_int {K : PySem.W.Frag} (d : PyData) : PySem.W.kitOne K (.type (tyN d)) (.type "int") = some (kitD d "int") := kit_one d "int" (by simp)
theorem k_bool {K : PySem.W.Frag} (d : PyData) : PySem.W.kitOne K (.type (tyN d)) (.type "bool") = some (kitD d "bool") := kit_one d "bool" (by simp)
theorem k_str {K : PySem.W.Frag} (d : PyData) : PySem.W.kitOne K (.type (tyN d)) (.type "str") = some (kitD d "str") := kit_one d "str" (by simp)
theorem k_list {K : PySem.W.Frag} (d : PyData) : PySem.W.kitOne K (.type (tyN d)) (.type "list") = some (kitD d "list") := kit_one d "list" (by simp)
theorem k_tuple {K : PySem.W.Frag} (d : PyData) : PySem.W.kitOne K (.type (tyN d)) (.type "tuple") = some (kitD d "tuple") := kit_one d "tuple" (by simp)
theorem k_dict {K : PySem.W.Frag} (d : PyData) : PySem.W.kitOne K (.type (tyN d)) (.type "dict") = some (kitD d "dict") := kit_one d "dict" (by simp)
/-! ### nodes -/
def isNum (lo hi : Int) : PyData → Bool
  | .int i => decide (lo ≤ i) && decide (i ≤ hi)
  | _ => false
/-- how many items a node of this word has -/
def nItems (w : Str) : Option Nat :=
  if w = "letter" then some 2 else if w = "no" then some 1 else if w = "and" then some 3 else if w = "or" then some 3 else if w = "if" then some 3 else if w = "box" then some 2 else none
def nodeB (boxed : Bool) (row : Int) : PyData → Bool
  | .tuple (.str w :: ps) => if nItems w = some (ps.length + 1) then (if w = "letter" then ps.all (isNum 0 7) else if w = "box" && !boxed then false else ps.all (isNum 0 (row - 1))) else false
  | _ => false
/-- a node as a key -/
def keyD : PyData → Key
  | .int i => .inl i
  | .str x => .inr x
  | _ => .inl 0
def keysD : PyData → List Key
  | .tuple ds => ds.map keyD
  | _ => []
/-- the first wrong row behind row at, whose earlier nodes are seen -/
def memK (k : List Key) (l : List (List Key)) : Bool := l.any fun x => decide (x = k)
def wrongF (most : Int) (boxed : Bool) : Int → List (List Key) → List PyData → Option Int
  | _, _, [] => none
  | at_, seen, d :: ds => if at_ < most then (if nodeB boxed at_ d then (if memK (keysD d) seen = true then some at_ else wrongF most boxed (at_ + 1) (seen ++ [keysD d]) ds) else some at_) else some at_
def wrongD (most : Int) (boxed : Bool) : PyData → Option Int
  | .list ds => wrongF most boxed 0 [] ds
  | _ => some (-1)
section
variable [KW]
theorem node_keys {boxed : Bool} {row : Int} {d : PyData} {v : V} {M : List Addr} {H : Hp} (x : Is M H d v) (h : nodeB boxed row d = true) : ∃ a, v = .ref a ∧ Tp M H a ((keysD d).map kV) := by
  unfold nodeB at h
  split at h
  · rename_i w ps
    obtain ⟨a, vs, rfl, ha, hs⟩ := x.tupE
    refine ⟨a, rfl, ?_⟩
    have hall : ∀ p ∈ ps, ∃ i, p = .int i := by
      have num : ∀ lo hi, ps.all (isNum lo hi) = true → ∀ p ∈ ps, ∃ i, p = PyData.int i := fun lo hi hh p hp => by
        have q := List.all_eq_true.mp hh p hp
        cases p with
        | int i => exact ⟨i, rfl⟩
        | _ => cases q
      split at h
      · split at h
        · exact num _ _ h
        · split at h
          · cases h
          · exact num _ _ h
      · cases h
    have key : ∀ (ds : List PyData) (vs : List V), (∀ p ∈ ds, ∃ i, p = PyData.int i) → IsDs M H ds vs → vs = (ds.map keyD).map kV := by
      intro ds
      induction ds with
      | nil => intro vs _ y; unfold IsDs at y; exact y
      | cons c ds ih =>
        intro vs hh y
        unfold IsDs at y
        obtain ⟨u, r, rfl, h1, h2⟩ := y
        obtain ⟨i, rfl⟩ := hh c (by simp)
        rw [h1.intE, ih r (fun p hp => hh p (by simp [hp])) h2]
        rfl
    unfold IsDs at hs
    obtain ⟨u, r, rfl, h1, h2⟩ := hs
    rw [h1.strE, key ps r hall h2] at ha
    exact ha
  · cases h
end
end LL

set_option Elab.async false
set_option linter.all false
set_option maxRecDepth 100000
set_option maxHeartbeats 4000000
/-! LMore: a written dict's get; comprehensions that map -/
namespace LL
open PySem PySem.Spec PyProof.Rows L2
variable [KW]
theorem SqT.adv {K : PySem.W.Frag} {H H' : Hp} {a : Addr} {xs : List V} (e : Adv [] H H') (h : SqT K H a xs) : SqT K H' a xs := by
  rcases h with (h | ⟨o, h⟩) | h
  · exact .inl (.inl (e.same _ _ h))
  · exact .inl (.inr ⟨o, e.same _ _ h⟩)
  · exact .inr h
theorem SqL.adv {K : PySem.W.Frag} {H H' : Hp} {a : Addr} {xs : List V} (e : Adv [] H H') (h : SqL K H a xs) : SqL K H' a xs := by
  rcases h with (h | ⟨o, h⟩) | h
  · exact .inl (.inl (e.same _ _ h))
  · exact .inl (.inr ⟨o, e.same _ _ h⟩)
  · exact .inr h
/-- d.get(k), d a dict of the text's top whose keys are texts -/
def tKGet (K : PySem.W.Frag) (w : World) (td ty : TE) : TE := fun σ H Q => td σ H fun x H1 => ∃ (d : Addr) (es : Array DictEntry) (n : Nat), x = .ref d ∧ KDict K w d es n ∧
  ty σ H1 fun y H2 => ∃ (z : Str) (r : Option Value) (v : V), y = .str z ∧ PySem.W.nsIn K d z = some r ∧ RelV v (r.getD .none) ∧ Q v H2
theorem pe_kget {X : Cx} {o e : Expr} {apos cpos : Pos} {td ty : TE} (ho : PE X o td) (he : PE X e ty) (m : M1 X o "get" apos e cpos) : PE X (.Call (.Attribute o "get" apos) [e] [] cpos) (tKGet X.K X.w td ty) := by
  refine ⟨fun pins s σ H Q I h => ?_⟩
  refine wpAny_Call_method m.base m.few m.line PySem.F.plainAttrs_dict PySem.F.slot_dict_get PySem.F.type_dict_get (thn (ho.run pins s σ H _ I h) fun u s1 q => ?_)
  obtain ⟨x, H1, I1, rx, d, es, n, ex, KD, q1⟩ := q
  subst ex
  cases (show u = Value.ref d from rx)
  refine ⟨kd_type KD I1, fun b eb => ?_, ?_⟩
  · cases eb
    exact ⟨_, I1.kIn _ _ KD.at_, rfl⟩
  · rw [m.trees]
    refine Calls.callWith_builtin rfl (Calls.evalArgs_plain (Calls.spliced_cons (thn (he.run pins s1 σ H1 _ I1 q1) fun iv s2 q2 => Calls.spliced_nil ?_)))
    obtain ⟨y, H2, I2, ry, z, r, v, ey, en, rv, q3⟩ := q2
    subst ey
    obtain ⟨t, rfl⟩ := ry
    have mo := PySem.W.mapOf_K (prog := X.prog) (w := X.w) I2.kIn KD.at_ KD.lit
    refine call_meetsIn PySem.F.slot_dict_get mo.typeIs PySem.F.entry_dict_get (PySem.F.args_dict_get_2 _ _) (meets_dict_get (strKind X.prog X.w) d (PySem.strKind_is X.prog X.w z t) KD.low) ⟨_, mo, ⟨v, H2, I2.tok _, ?_, q3⟩⟩
    rw [PySem.W.find_K KD.at_ en]
    exact rv
section
variable {K : PySem.W.Frag} {a D : Addr} {xs : List V} {g : TG} {te : TE} {vs : List Nat} {σ : L2.St} {H1 : Hp} {Qd : Hp → Prop}
theorem range_map_succ (ys : Nat → V) (i : Nat) : (List.range (i + 1)).map ys = (List.range i).map ys ++ [ys i] := by rw [List.range_succ, List.map_append]; rfl
/-- [e for x in t], t a tuple: e gives ys i at its i-th item -/
theorem lc_mapT (ys : Nat → V) (hD : H1 D = none) (src : SqT K H1 a xs) (hz : xs.length ≤ 1000000)
    (hs : ∀ (i : Nat) (x : V) (H : Hp) (acc : List V) (R : V → Hp → Prop), xs[i]? = some x → Adv [] H1 H → H D = some (.lst acc) → (∀ H4, H4 D = some (.lst acc) → Adv [] H1 H4 → R (ys i) H4) → g x (wipe σ vs) H fun σ2 H2 => wipe σ2 vs = wipe σ vs ∧ te σ2 H2 R)
    (hd : ∀ H, Adv [] H1 H → H D = some (.lst ((List.range xs.length).map ys)) → Qd H) :
    ∃ W : Nat → Nat → Hp → Prop, (∃ m, W 0 m (upd H1 D (.lst []))) ∧ ∀ i m H, W i m H →
      ((Itt K a).stop i H ∧ Qd H) ∨ ((Itt K a).go i H ∧ ∃ Nx : Hp → Prop, (∀ H', Nx H' → ∃ m', m' < m ∧ W (i + 1) m' H') ∧ ∀ x H', (Itt K a).yld i H x H' → g x (wipe σ vs) H' fun σ2 H2 => wipe σ2 vs = wipe σ vs ∧ tYes σ2 H2 fun b H3 =>
        if b = true then te σ2 H3 fun y H4 => ∃ acc, H4 D = some (.lst acc) ∧ acc.length < sizeLine ∧ Nx (upd H4 D (.lst (acc ++ [y]))) else Nx H3) := by
  refine lc_tup (K := K) (a := a) (xs := xs) (tt := tYes) (fun i H => Adv [] H1 H ∧ H D = some (.lst ((List.range i).map ys))) ⟨Adv.new hD, upd_same⟩ (fun i H _ p => SqT.adv p.1 src) (fun i x H hx p => ?_) (fun H p => hd H p.1 p.2)
  have hi : i < xs.length := (List.getElem?_eq_some_iff.mp hx).1
  refine hs i x H _ (fun y H4 => ∃ acc, H4 D = some (.lst acc) ∧ acc.length < sizeLine ∧ Adv [] H1 (upd H4 D (.lst (acc ++ [y]))) ∧ (upd H4 D (.lst (acc ++ [y]))) D = some (.lst ((List.range (i + 1)).map ys))) hx p.1 p.2 (fun H4 e4 a4 => ⟨_, e4, ?_, Adv.mut a4 hD, ?_⟩)
  · rw [List.length_map, List.length_range, sizeLine_eq]
    omega
  · rw [upd_same, range_map_succ]
theorem lc_mapL (ys : Nat → V) (hD : H1 D = none) (src : SqL K H1 a xs) (hz : xs.length ≤ 1000000)
    (hs : ∀ (i : Nat) (x : V) (H : Hp) (acc : List V) (R : V → Hp → Prop), xs[i]? = some x → Adv [] H1 H → H D = some (.lst acc) → (∀ H4, H4 D = some (.lst acc) → Adv [] H1 H4 → R (ys i) H4) → g x (wipe σ vs) H fun σ2 H2 => wipe σ2 vs = wipe σ vs ∧ te σ2 H2 R)
    (hd : ∀ H, Adv [] H1 H → H D = some (.lst ((List.range xs.length).map ys)) → Qd H) :
    ∃ W : Nat → Nat → Hp → Prop, (∃ m, W 0 m (upd H1 D (.lst []))) ∧ ∀ i m H, W i m H →
      ((Itl K a).stop i H ∧ Qd H) ∨ ((Itl K a).go i H ∧ ∃ Nx : Hp → Prop, (∀ H', Nx H' → ∃ m', m' < m ∧ W (i + 1) m' H') ∧ ∀ x H', (Itl K a).yld i H x H' → g x (wipe σ vs) H' fun σ2 H2 => wipe σ2 vs = wipe σ vs ∧ tYes σ2 H2 fun b H3 =>
        if b = true then te σ2 H3 fun y H4 => ∃ acc, H4 D = some (.lst acc) ∧ acc.length < sizeLine ∧ Nx (upd H4 D (.lst (acc ++ [y]))) else Nx H3) := by
  refine lc_list (K := K) (a := a) (xs := xs) (tt := tYes) (fun i H => Adv [] H1 H ∧ H D = some (.lst ((List.range i).map ys))) ⟨Adv.new hD, upd_same⟩ (fun i H _ p => SqL.adv p.1 src) (fun i x H hx p => ?_) (fun H p => hd H p.1 p.2)
  have hi : i < xs.length := (List.getElem?_eq_some_iff.mp hx).1
  refine hs i x H _ (fun y H4 => ∃ acc, H4 D = some (.lst acc) ∧ acc.length < sizeLine ∧ Adv [] H1 (upd H4 D (.lst (acc ++ [y]))) ∧ (upd H4 D (.lst (acc ++ [y]))) D = some (.lst ((List.range (i + 1)).map ys))) hx p.1 p.2 (fun H4 e4 a4 => ⟨_, e4, ?_, Adv.mut a4 hD, ?_⟩)
  · rw [List.length_map, List.length_range, sizeLine_eq]
    omega
  · rw [upd_same, range_map_succ]
theorem lc_mapR {n : Nat} (ys : Nat → V) (hD : H1 D = none) (hz : n ≤ 1000000)
    (hs : ∀ (i : Nat) (H : Hp) (acc : List V) (R : V → Hp → Prop), i < n → Adv [] H1 H → H D = some (.lst acc) → (∀ H4, H4 D = some (.lst acc) → Adv [] H1 H4 → R (ys i) H4) → g (.int (0 + (i : Nat))) (wipe σ vs) H fun σ2 H2 => wipe σ2 vs = wipe σ vs ∧ te σ2 H2 R)
    (hd : ∀ H, Adv [] H1 H → H D = some (.lst ((List.range n).map ys)) → Qd H) :
    ∃ W : Nat → Nat → Hp → Prop, (∃ m, W 0 m (upd H1 D (.lst []))) ∧ ∀ i m H, W i m H →
      ((Itr 0 n).stop i H ∧ Qd H) ∨ ((Itr 0 n).go i H ∧ ∃ Nx : Hp → Prop, (∀ H', Nx H' → ∃ m', m' < m ∧ W (i + 1) m' H') ∧ ∀ x H', (Itr 0 n).yld i H x H' → g x (wipe σ vs) H' fun σ2 H2 => wipe σ2 vs = wipe σ vs ∧ tYes σ2 H2 fun b H3 =>
        if b = true then te σ2 H3 fun y H4 => ∃ acc, H4 D = some (.lst acc) ∧ acc.length < sizeLine ∧ Nx (upd H4 D (.lst (acc ++ [y]))) else Nx H3) := by
  refine lc_range (lo := 0) (n := n) (tt := tYes) (fun i H => Adv [] H1 H ∧ H D = some (.lst ((List.range i).map ys))) ⟨Adv.new hD, upd_same⟩ (fun i H hi p => ?_) (fun H p => hd H p.1 p.2)
  refine hs i H _ (fun y H4 => ∃ acc, H4 D = some (.lst acc) ∧ acc.length < sizeLine ∧ Adv [] H1 (upd H4 D (.lst (acc ++ [y]))) ∧ (upd H4 D (.lst (acc ++ [y]))) D = some (.lst ((List.range (i + 1)).map ys))) hi p.1 p.2 (fun H4 e4 a4 => ⟨_, e4, ?_, Adv.mut a4 hD, ?_⟩)
  · rw [List.length_map, List.length_range, sizeLine_eq]
    omega
  · rw [upd_same, range_map_succ]
theorem lc_dataR {M : List Addr} {n : Nat} (ds : List PyData) (hn : n = ds.length) (hD : H1 D = none) (hz : n ≤ 1000000)
    (hs : ∀ (i : Nat) (d : PyData) (H : Hp) (acc : List V) (R : V → Hp → Prop), ds[i]? = some d → Adv [] H1 H → H D = some (.lst acc) → (∀ y H4, H4 D = some (.lst acc) → Adv [D] H H4 → Is (D :: M) H4 d y → R y H4) → g (.int (0 + (i : Nat))) (wipe σ vs) H fun σ2 H2 => wipe σ2 vs = wipe σ vs ∧ te σ2 H2 R)
    (hd : ∀ H acc, Adv [] H1 H → H D = some (.lst acc) → IsDs (D :: M) H ds acc → Qd H) :
    ∃ W : Nat → Nat → Hp → Prop, (∃ m, W 0 m (upd H1 D (.lst []))) ∧ ∀ i m H, W i m H →
      ((Itr 0 n).stop i H ∧ Qd H) ∨ ((Itr 0 n).go i H ∧ ∃ Nx : Hp → Prop, (∀ H', Nx H' → ∃ m', m' < m ∧ W (i + 1) m' H') ∧ ∀ x H', (Itr 0 n).yld i H x H' → g x (wipe σ vs) H' fun σ2 H2 => wipe σ2 vs = wipe σ vs ∧ tYes σ2 H2 fun b H3 =>
        if b = true then te σ2 H3 fun y H4 => ∃ acc, H4 D = some (.lst acc) ∧ acc.length < sizeLine ∧ Nx (upd H4 D (.lst (acc ++ [y]))) else Nx H3) := by
  refine lc_range (lo := 0) (n := n) (tt := tYes) (fun i H => Adv [] H1 H ∧ ∃ acc, H D = some (.lst acc) ∧ IsDs (D :: M) H (ds.take i) acc) ⟨Adv.new hD, [], upd_same, .nil⟩ (fun i H hx p => ?_) (fun H p => ?_)
  · have hi : i < ds.length := by
      rw [← hn]
      exact hx
    obtain ⟨a1, acc, hacc, hds⟩ := p
    have hlen := hds.len
    rw [List.length_take, Nat.min_eq_left (Nat.le_of_lt hi)] at hlen
    refine hs i (ds[i]) H acc (fun y H4 => ∃ acc, H4 D = some (.lst acc) ∧ acc.length < sizeLine ∧ Adv [] H1 (upd H4 D (.lst (acc ++ [y]))) ∧ ∃ acc', (upd H4 D (.lst (acc ++ [y]))) D = some (.lst acc') ∧ IsDs (D :: M) (upd H4 D (.lst (acc ++ [y]))) (ds.take (i + 1)) acc')
      (List.getElem?_eq_getElem hi) a1 hacc (fun y H4 e4 a4 hy => ⟨acc, e4, by rw [sizeLine_eq]; omega, ?_, acc ++ [y], upd_same, ?_⟩)
    · exact Adv.mut (((a1.more (N := [D]) (by simp)).trans a4).drop hD) hD
    · have e1 : ds.take (i + 1) = ds.take i ++ [ds[i]] := by rw [List.take_succ, List.getElem?_eq_getElem hi]; rfl
      rw [e1]
      have m1 : ∀ b ∈ [D], b ∈ D :: M := fun b hb => by simp at hb; simp [hb]
      exact ((hds.adv (a4.more m1)).adv (Adv.set (by simp))).app (IsDs.one (hy.adv (Adv.set (by simp))))
  · obtain ⟨a1, acc, hacc, hds⟩ := p
    rw [hn, List.take_length] at hds
    exact hd H acc a1 hacc hds
theorem lc_dataL {M : List Addr} (ds : List PyData) (hn : xs.length = ds.length) (hD : H1 D = none) (src : SqL K H1 a xs) (hz : xs.length ≤ 1000000)
    (hs : ∀ (i : Nat) (x : V) (d : PyData) (H : Hp) (acc : List V) (R : V → Hp → Prop), xs[i]? = some x → ds[i]? = some d → Adv [] H1 H → H D = some (.lst acc) → (∀ y H4, H4 D = some (.lst acc) → Adv [D] H H4 → Is (D :: M) H4 d y → R y H4) → g x (wipe σ vs) H fun σ2 H2 => wipe σ2 vs = wipe σ vs ∧ te σ2 H2 R)
    (hd : ∀ H acc, Adv [] H1 H → H D = some (.lst acc) → IsDs (D :: M) H ds acc → Qd H) :
    ∃ W : Nat → Nat → Hp → Prop, (∃ m, W 0 m (upd H1 D (.lst []))) ∧ ∀ i m H, W i m H →
      ((Itl K a).stop i H ∧ Qd H) ∨ ((Itl K a).go i H ∧ ∃ Nx : Hp → Prop, (∀ H', Nx H' → ∃ m', m' < m ∧ W (i + 1) m' H') ∧ ∀ x H', (Itl K a).yld i H x H' → g x (wipe σ vs) H' fun σ2 H2 => wipe σ2 vs = wipe σ vs ∧ tYes σ2 H2 fun b H3 =>
        if b = true then te σ2 H3 fun y H4 => ∃ acc, H4 D = some (.lst acc) ∧ acc.length < sizeLine ∧ Nx (upd H4 D (.lst (acc ++ [y]))) else Nx H3) := by
  refine lc_list (K := K) (a := a) (xs := xs) (tt := tYes) (fun i H => Adv [] H1 H ∧ ∃ acc, H D = some (.lst acc) ∧ IsDs (D :: M) H (ds.take i) acc) ⟨Adv.new hD, [], upd_same, .nil⟩ (fun i H _ p => SqL.adv p.1 src) (fun i x H hx p => ?_) (fun H p => ?_)
  · have hi : i < ds.length := by
      rw [← hn]
      exact (List.getElem?_eq_some_iff.mp hx).1
    obtain ⟨a1, acc, hacc, hds⟩ := p
    have hlen := hds.len
    rw [List.length_take, Nat.min_eq_left (Nat.le_of_lt hi)] at hlen
    refine hs i x (ds[i]) H acc (fun y H4 => ∃ acc, H4 D = some (.lst acc) ∧ acc.length < sizeLine ∧ Adv [] H1 (upd H4 D (.lst (acc ++ [y]))) ∧ ∃ acc', (upd H4 D (.lst (acc ++ [y]))) D = some (.lst acc') ∧ IsDs (D :: M) (upd H4 D (.lst (acc ++ [y]))) (ds.take (i + 1)) acc')
      hx (List.getElem?_eq_getElem hi) a1 hacc (fun y H4 e4 a4 hy => ⟨acc, e4, by rw [sizeLine_eq]; omega, ?_, acc ++ [y], upd_same, ?_⟩)
    · exact Adv.mut (((a1.more (N := [D]) (by simp)).trans a4).drop hD) hD
    · have e1 : ds.take (i + 1) = ds.take i ++ [ds[i]] := by rw [List.take_succ, List.getElem?_eq_getElem hi]; rfl
      rw [e1]
      have m1 : ∀ b ∈ [D], b ∈ D :: M := fun b hb => by simp at hb; simp [hb]
      exact ((hds.adv (a4.more m1)).adv (Adv.set (by simp))).app (IsDs.one (hy.adv (Adv.set (by simp))))
  · obtain ⟨a1, acc, hacc, hds⟩ := p
    rw [hn, List.take_length] at hds
    exact hd H acc a1 hacc hds
theorem lc_dataT {M : List Addr} (ds : List PyData) (hn : xs.length = ds.length) (hD : H1 D = none) (src : SqT K H1 a xs) (hz : xs.length ≤ 1000000)
    (hs : ∀ (i : Nat) (x : V) (d : PyData) (H : Hp) (acc : List V) (R : V → Hp → Prop), xs[i]? = some x → ds[i]? = some d → Adv [] H1 H → H D = some (.lst acc) → (∀ y H4, H4 D = some (.lst acc) → Adv [D] H H4 → Is (D :: M) H4 d y → R y H4) → g x (wipe σ vs) H fun σ2 H2 => wipe σ2 vs = wipe σ vs ∧ te σ2 H2 R)
    (hd : ∀ H acc, Adv [] H1 H → H D = some (.lst acc) → IsDs (D :: M) H ds acc → Qd H) :
    ∃ W : Nat → Nat → Hp → Prop, (∃ m, W 0 m (upd H1 D (.lst []))) ∧ ∀ i m H, W i m H →
      ((Itt K a).stop i H ∧ Qd H) ∨ ((Itt K a).go i H ∧ ∃ Nx : Hp → Prop, (∀ H', Nx H' → ∃ m', m' < m ∧ W (i + 1) m' H') ∧ ∀ x H', (Itt K a).yld i H x H' → g x (wipe σ vs) H' fun σ2 H2 => wipe σ2 vs = wipe σ vs ∧ tYes σ2 H2 fun b H3 =>
        if b = true then te σ2 H3 fun y H4 => ∃ acc, H4 D = some (.lst acc) ∧ acc.length < sizeLine ∧ Nx (upd H4 D (.lst (acc ++ [y]))) else Nx H3) := by
  refine lc_tup (K := K) (a := a) (xs := xs) (tt := tYes) (fun i H => Adv [] H1 H ∧ ∃ acc, H D = some (.lst acc) ∧ IsDs (D :: M) H (ds.take i) acc) ⟨Adv.new hD, [], upd_same, .nil⟩ (fun i H _ p => SqT.adv p.1 src) (fun i x H hx p => ?_) (fun H p => ?_)
  · have hi : i < ds.length := by
      rw [← hn]
      exact (List.getElem?_eq_some_iff.mp hx).1
    obtain ⟨a1, acc, hacc, hds⟩ := p
    have hlen := hds.len
    rw [List.length_take, Nat.min_eq_left (Nat.le_of_lt hi)] at hlen
    refine hs i x (ds[i]) H acc (fun y H4 => ∃ acc, H4 D = some (.lst acc) ∧ acc.length < sizeLine ∧ Adv [] H1 (upd H4 D (.lst (acc ++ [y]))) ∧ ∃ acc', (upd H4 D (.lst (acc ++ [y]))) D = some (.lst acc') ∧ IsDs (D :: M) (upd H4 D (.lst (acc ++ [y]))) (ds.take (i + 1)) acc')
      hx (List.getElem?_eq_getElem hi) a1 hacc (fun y H4 e4 a4 hy => ⟨acc, e4, by rw [sizeLine_eq]; omega, ?_, acc ++ [y], upd_same, ?_⟩)
    · exact Adv.mut (((a1.more (N := [D]) (by simp)).trans a4).drop hD) hD
    · have e1 : ds.take (i + 1) = ds.take i ++ [ds[i]] := by rw [List.take_succ, List.getElem?_eq_getElem hi]; rfl
      rw [e1]
      have m1 : ∀ b ∈ [D], b ∈ D :: M := fun b hb => by simp at hb; simp [hb]
      exact ((hds.adv (a4.more m1)).adv (Adv.set (by simp))).app (IsDs.one (hy.adv (Adv.set (by simp))))
  · obtain ⟨a1, acc, hacc, hds⟩ := p
    rw [hn, List.take_length] at hds
    exact hd H acc a1 hacc hds
theorem range_filt_succ (ys : Nat → V) (c : Nat → Bool) (i : Nat) : ((List.range (i + 1)).filter c).map ys = ((List.range i).filter c).map ys ++ (if c i = true then [ys i] else []) := by
  rw [List.range_succ, List.filter_append, List.map_append]
  congr 1
  cases h : c i <;> simp [h]
/-- [e for x in t if c], t a tuple -/
theorem lc_filtT {tt : TT} (ys : Nat → V) (c : Nat → Bool) (hD : H1 D = none) (src : SqT K H1 a xs) (hz : xs.length ≤ 1000000)
    (hs : ∀ (i : Nat) (x : V) (H : Hp) (acc : List V) (R : V → Hp → Prop) (R0 : Hp → Prop), xs[i]? = some x → Adv [] H1 H → H D = some (.lst acc) → (c i = true → ∀ H4, H4 D = some (.lst acc) → Adv [] H1 H4 → R (ys i) H4) →
      (c i = false → ∀ H4, H4 D = some (.lst acc) → Adv [] H1 H4 → R0 H4) → g x (wipe σ vs) H fun σ2 H2 => wipe σ2 vs = wipe σ vs ∧ tt σ2 H2 fun b H3 => if b = true then te σ2 H3 R else R0 H3)
    (hd : ∀ H, Adv [] H1 H → H D = some (.lst (((List.range xs.length).filter c).map ys)) → Qd H) :
    ∃ W : Nat → Nat → Hp → Prop, (∃ m, W 0 m (upd H1 D (.lst []))) ∧ ∀ i m H, W i m H →
      ((Itt K a).stop i H ∧ Qd H) ∨ ((Itt K a).go i H ∧ ∃ Nx : Hp → Prop, (∀ H', Nx H' → ∃ m', m' < m ∧ W (i + 1) m' H') ∧ ∀ x H', (Itt K a).yld i H x H' → g x (wipe σ vs) H' fun σ2 H2 => wipe σ2 vs = wipe σ vs ∧ tt σ2 H2 fun b H3 =>
        if b = true then te σ2 H3 fun y H4 => ∃ acc, H4 D = some (.lst acc) ∧ acc.length < sizeLine ∧ Nx (upd H4 D (.lst (acc ++ [y]))) else Nx H3) := by
  refine lc_tup (K := K) (a := a) (xs := xs) (tt := tt) (fun i H => Adv [] H1 H ∧ H D = some (.lst (((List.range i).filter c).map ys))) ⟨Adv.new hD, upd_same⟩ (fun i H _ p => SqT.adv p.1 src) (fun i x H hx p => ?_) (fun H p => hd H p.1 p.2)
  have hi : i < xs.length := (List.getElem?_eq_some_iff.mp hx).1
  refine hs i x H _ (fun y H4 => ∃ acc, H4 D = some (.lst acc) ∧ acc.length < sizeLine ∧ Adv [] H1 (upd H4 D (.lst (acc ++ [y]))) ∧ (upd H4 D (.lst (acc ++ [y]))) D = some (.lst (((List.range (i + 1)).filter c).map ys)))
    (fun H3 => Adv [] H1 H3 ∧ H3 D = some (.lst (((List.range (i + 1)).filter c).map ys))) hx p.1 p.2 (fun hc H4 e4 a4 => ⟨_, e4, ?_, Adv.mut a4 hD, ?_⟩) (fun hc H4 e4 a4 => ⟨a4, ?_⟩)
  · have h1 := List.length_filter_le c (List.range i)
    rw [List.length_range] at h1
    rw [List.length_map, sizeLine_eq]
    omega
  · rw [upd_same, range_filt_succ, if_pos hc]
  · rw [e4, range_filt_succ, if_neg (by rw [hc]; decide), List.append_nil]
end
theorem range_map_list {ds : List PyData} (f : PyData → Bool) : ((List.range ds.length).map fun i => V.bl (f (ds.getD i .none))) = (ds.map f).map V.bl := by
  apply List.ext_getElem
  · simp
  · intro i h1 h2
    have h : i < ds.length := by simpa using h1
    simp [h]
/-! ### dicts whose keys are tuples -/
theorem val_mem (kvs : List (List Key × V)) (k : List Key) : (valV kvs k).isSome = memK k (kvs.map (·.1)) := by
  unfold valV memK
  rw [Option.isSome_map, List.any_map]
  induction kvs with
  | nil => rfl
  | cons p r ih =>
    rw [List.find?_cons, List.any_cons]
    show (match decide (p.1 = k) with | true => some p | false => r.find? fun kv => decide (kv.1 = k)).isSome = (decide (p.1 = k) || r.any _)
    cases decide (p.1 = k) with
    | true => rfl
    | false => rw [Bool.false_or]; exact ih
theorem put_new (kvs : List (List Key × V)) (k : List Key) (v : V) (h : memK k (kvs.map (·.1)) = false) : putK kvs k v = kvs ++ [(k, v)] := by
  unfold putK
  have e : (kvs.any fun kv => decide (kv.1 = k)) = false := by
    unfold memK at h
    rw [List.any_map] at h
    exact h
  rw [if_neg (by rw [e]; decide)]
/-! ### for i, x in enumerate(list), the list left as it is -/
theorem for_enum {K : PySem.W.Frag} {a : Addr} {xs : List V} {g : TG} {tb : TS} {D : Ends} {σ : L2.St} {H : Hp} (Pv : Nat → L2.St → Hp → Prop) (h0 : Pv 0 σ H) (hl : ∀ i σ H, i ≤ xs.length → Pv i σ H → H a = some (.lst xs))
    (hs : ∀ (i : Nat) (x : V) (T : Addr) (σ : L2.St) (H : Hp), xs[i]? = some x → Pv i σ H → H T = none → g (.ref T) σ (upd H T (.tup [.int (i : Nat), x])) fun σ2 H2 => tb { D with nx := Pv (i + 1), ct := Pv (i + 1), bk := D.nx } σ2 H2) (hd : ∀ σ H, Pv xs.length σ H → D.nx σ H) :
    ∃ W : Nat → Nat → L2.St → Hp → Prop, (∃ m, W 0 m σ H) ∧ ∀ i m σ H, W i m σ H →
      ((Ite K a).stop i H ∧ D.nx σ H) ∨ ((Ite K a).go i H ∧ ∃ N : L2.St → Hp → Prop, (∀ σ' H', N σ' H' → ∃ m', m' < m ∧ W (i + 1) m' σ' H') ∧ ∀ x H', (Ite K a).yld i H x H' → g x σ H' fun σ2 H2 => tb { D with nx := N, ct := N, bk := D.nx } σ2 H2) := by
  refine ⟨fun i m σ H => i + m = xs.length ∧ Pv i σ H, ⟨xs.length, by omega, h0⟩, ?_⟩
  rintro i m σ H ⟨em, p⟩
  have q : SqL K H a xs := SqL.of (hl i σ H (by omega) p)
  by_cases hlt : i < xs.length
  · refine .inr ⟨⟨xs, xs[i], q, List.getElem?_eq_getElem hlt⟩, Pv (i + 1), fun σ' H' p' => ⟨m - 1, by omega, by omega, p'⟩, fun x H' y => ?_⟩
    obtain ⟨T, y0, rfl, nT, rfl, f⟩ := y
    exact hs i y0 T σ H (f xs q) p nT
  · have e : i = xs.length := by omega
    subst e
    exact .inl ⟨⟨xs, q, Nat.le_refl _⟩, hd σ H p⟩
theorem not_mem_new {M : List Addr} {H : Hp} {p : Addr} (h : ∀ b ∈ M, H b ≠ none) (n : H p = none) : p ∉ M := fun z => h p z n
theorem yes_if {σ : L2.St} {H : Hp} {f : Bool → Hp → Prop} (h : f true H) : tYes σ H f := h
/-! ### ways that are never gone -/
def eNo : TE := fun _ _ _ => False
def cNo : TT := fun _ _ _ => False
theorem pe_never {X : Cx} {e : Expr} : PE X e eNo := ⟨fun _ _ _ _ _ _ h => h.elim⟩
theorem pt_never {X : Cx} {e : Expr} : PT X e cNo := ⟨fun _ _ _ _ _ _ h => h.elim⟩
/-- a comprehension over an empty dict that is locked -/
theorem lc_keys0 {d D : Addr} {o : Obj} {g : TG} {tt : TT} {te : TE} {vs : List Nat} {σ : L2.St} {H1 : Hp} {Qd : Hp → Prop} (hd0 : H1 d = some (.frz o (.dK []))) (hD : H1 D = none) (hd : Qd (upd H1 D (.lst []))) :
    ∃ W : Nat → Nat → Hp → Prop, (∃ m, W 0 m (upd H1 D (.lst []))) ∧ ∀ i m H, W i m H →
      ((Itk d o []).stop i H ∧ Qd H) ∨ ((Itk d o []).go i H ∧ ∃ Nx : Hp → Prop, (∀ H', Nx H' → ∃ m', m' < m ∧ W (i + 1) m' H') ∧ ∀ x H', (Itk d o []).yld i H x H' → g x (wipe σ vs) H' fun σ2 H2 => wipe σ2 vs = wipe σ vs ∧ tt σ2 H2 fun b H3 =>
        if b = true then te σ2 H3 fun y H4 => ∃ acc, H4 D = some (.lst acc) ∧ acc.length < sizeLine ∧ Nx (upd H4 D (.lst (acc ++ [y]))) else Nx H3) := by
  refine ⟨fun i m H => H = upd H1 D (.lst []), ⟨0, rfl⟩, ?_⟩
  rintro i m H rfl
  exact .inl ⟨⟨by rw [upd_ne (ne_of_none hd0 hD)]; exact hd0, Nat.zero_le _⟩, hd⟩
/-- a loop over an empty dict that is locked -/
theorem for_keys0 {d : Addr} {o : Obj} {g : TG} {tb : TS} {D : Ends} {σ : L2.St} {H1 : Hp} (hd0 : H1 d = some (.frz o (.dK []))) (hd : D.nx σ H1) :
    ∃ W : Nat → Nat → L2.St → Hp → Prop, (∃ m, W 0 m σ H1) ∧ ∀ i m σ H, W i m σ H →
      ((Itk d o []).stop i H ∧ D.nx σ H) ∨ ((Itk d o []).go i H ∧ ∃ N : L2.St → Hp → Prop, (∀ σ' H', N σ' H' → ∃ m', m' < m ∧ W (i + 1) m' σ' H') ∧ ∀ x H', (Itk d o []).yld i H x H' → g x σ H' fun σ2 H2 => tb { D with nx := N, ct := N, bk := D.nx } σ2 H2) := by
  refine ⟨fun i m σ' H => σ' = σ ∧ H = H1, ⟨0, rfl, rfl⟩, ?_⟩
  rintro i m σ' H ⟨rfl, rfl⟩
  exact .inl ⟨⟨hd0, Nat.zero_le _⟩, hd⟩
theorem IsDs.last {M : List Addr} {H : Hp} : ∀ {ds : List PyData} {d : PyData} {vs : List V}, IsDs M H (ds ++ [d]) vs → ∃ ws v, vs = ws ++ [v] ∧ IsDs M H ds ws ∧ Is M H d v
  | [], d, vs, x => by
    have x' : IsDs M H [d] vs := x
    unfold IsDs at x'
    obtain ⟨v, r, rfl, h1, h2⟩ := x'
    unfold IsDs at h2
    subst h2
    exact ⟨[], v, rfl, .nil, h1⟩
  | c :: ds, d, vs, x => by
    have x' : IsDs M H (c :: (ds ++ [d])) vs := x
    unfold IsDs at x'
    obtain ⟨v, r, rfl, h1, h2⟩ := x'
    obtain ⟨ws, u, rfl, h3, h4⟩ := h2.last
    exact ⟨v :: ws, u, rfl, .cons h1 h3, h4⟩
theorem Is.pair {M : List Addr} {H : Hp} {d e : PyData} {v : V} (x : Is M H (.tuple [d, e]) v) : ∃ t v1 v2, v = .ref t ∧ Tp M H t [v1, v2] ∧ Is M H d v1 ∧ Is M H e v2 := by
  obtain ⟨t, vs, rfl, ht, hs⟩ := x.tupE
  unfold IsDs at hs
  obtain ⟨v1, r, rfl, h1, h2⟩ := hs
  unfold IsDs at h2
  obtain ⟨v2, r2, rfl, h3, h4⟩ := h2
  unfold IsDs at h4
  subst h4
  exact ⟨t, v1, v2, rfl, ht, h1, h3⟩
theorem IsDs.of_get {M : List Addr} {H : Hp} : ∀ {ds : List PyData} {vs : List V}, vs.length = ds.length → (∀ (i : Nat) d v, ds[i]? = some d → vs[i]? = some v → Is M H d v) → IsDs M H ds vs
  | [], vs, hl, h => by
    have : vs = [] := List.length_eq_zero_iff.mp hl
    subst this
    exact .nil
  | d :: ds, [], hl, h => by simp at hl
  | d :: ds, v :: vs, hl, h => .cons (h 0 d v rfl rfl) (IsDs.of_get (by simpa using hl) fun i d' v' h1 h2 => h (i + 1) d' v' (by simpa using h1) (by simpa using h2))
end LL

set_option Elab.async false
set_option linter.all false
set_option maxRecDepth 100000
set_option maxHeartbeats 4000000
/-! LBook: a book of rows (a list, and the dict of its nodes), a stream beside it; written data -/
namespace LL
open PySem PySem.Spec PyProof.Rows L2
variable [KW]
def keyDt : Key → PyData
  | .inl i => .int i
  | .inr x => .str x
theorem ks_data {M : List Addr} {H : Hp} : ∀ ks : List Key, IsDs M H (ks.map keyDt) (ks.map kV)
  | [] => .nil
  | .inl i :: ks => .cons .int (ks_data ks)
  | .inr x :: ks => .cons .str (ks_data ks)
theorem nd_data {M : List Addr} {H : Hp} {a : Addr} {ks : List Key} (h : H a = some (.tup (ks.map kV))) (hn : a ∉ M) : Is M H (.tuple (ks.map keyDt)) (.ref a) := Is.tup h hn (ks_data ks)
theorem sz_key (k : Key) : sz (keyDt k) = 1 := by cases k <;> (unfold keyDt sz; rfl)
theorem dep_key (k : Key) : dep (keyDt k) = 0 := by cases k <;> (unfold keyDt dep; rfl)
theorem sz_tup (ds : List PyData) : sz (.tuple ds) = 1 + szL ds := by rw [sz]
theorem dep_tup (ds : List PyData) : dep (.tuple ds) = 1 + depL ds := by rw [dep]
theorem sz_lst (ds : List PyData) : sz (.list ds) = 1 + szL ds := by rw [sz]
theorem dep_lst (ds : List PyData) : dep (.list ds) = 1 + depL ds := by rw [dep]
theorem depL_cons (d : PyData) (ds : List PyData) : depL (d :: ds) = max (dep d) (depL ds) := by rw [depL]
theorem depL_nil : depL [] = 0 := by rw [depL]
theorem ks_sz : ∀ ks : List Key, szL (ks.map keyDt) = ks.length
  | [] => szL_nil
  | k :: ks => by rw [List.map_cons, szL_cons, ks_sz ks, List.length_cons, sz_key]; omega
theorem ks_dep : ∀ ks : List Key, depL (ks.map keyDt) = 0
  | [] => depL_nil
  | k :: ks => by rw [List.map_cons, depL_cons, ks_dep ks, dep_key]; rfl
/-- a datum as small as a node -/
def Small (d : PyData) : Prop := sz d ≤ 4 ∧ dep d ≤ 1 ∧ ∃ ks : List Key, d = .tuple (ks.map keyDt)
theorem nd_small {ks : List Key} (h : ks.length ≤ 3) : Small (.tuple (ks.map keyDt)) := by
  refine ⟨?_, ?_, ks, rfl⟩
  · rw [sz_tup, ks_sz]; omega
  · rw [dep_tup, ks_dep]; exact Nat.le_refl _
structure BookAt (M : List Addr) (H : Hp) (b0 b1 : Addr) (n : Nat) : Prop where
  rows : ∃ (rs : List V) (ds : List PyData) (kvs : List (List Key × V)), H b0 = some (.lst rs) ∧ rs.length = n ∧ IsDs M H ds rs ∧ (∀ d ∈ ds, Small d) ∧ H b1 = some (.dT kvs) ∧ kvs.length ≤ n ∧ ∀ p ∈ kvs, ∃ i : Nat, p.2 = .int i ∧ i < n
structure Bk (M : List Addr) (H : Hp) (s bk b0 b1 : Addr) (n : Nat) : Prop where
  str : StrAt M H s
  hbk : H bk = some (.lst [.ref b0, .ref b1])
  ms : s ∈ M
  m0 : b0 ∈ M
  m1 : b1 ∈ M
  kM : bk ∉ M
  ns0 : s ≠ b0
  ns1 : s ≠ b1
  n01 : b0 ≠ b1
  al : ∀ b ∈ M, H b ≠ none
  book : BookAt M H b0 b1 n
section
variable {M N : List Addr} {H H' : Hp} {s bk b0 b1 p : Addr} {n : Nat}
theorem alloc_adv (h : ∀ b ∈ M, H b ≠ none) (a : Adv N H H') (hN : ∀ b ∈ N, H' b ≠ none) : ∀ b ∈ M, H' b ≠ none := fun b hb => by
  by_cases e : b ∈ N
  · exact hN b e
  · cases q : H b with
    | none => exact absurd q (h b hb)
    | some o => rw [a b o e q]; simp
theorem Bk.adv (x : Bk M H s bk b0 b1 n) (a : Adv N H H') (h0 : b0 ∉ N) (h1 : b1 ∉ N) (hn : ∀ b ∈ N, b ∈ M) (hs : StrAt M H' s) (hal : ∀ b ∈ N, H' b ≠ none) : Bk M H' s bk b0 b1 n := by
  obtain ⟨x1, x2, x3, x4, x5, x6, x7, x8, x9, xa, rs, ds, kvs, r1, r2, r3, r4, r5, r6, r7⟩ := x
  exact ⟨hs, a _ _ (fun z => x6 (hn _ z)) x2, x3, x4, x5, x6, x7, x8, x9, alloc_adv xa a hal, ⟨rs, ds, kvs, a _ _ h0 r1, r2, r3.adv (a.more hn), r4, a _ _ h1 r5, r6, r7⟩⟩
theorem Bk.same (x : Bk M H s bk b0 b1 n) (a : Adv [] H H') : Bk M H' s bk b0 b1 n := x.adv a (by simp) (by simp) (by simp) (x.str.same a) (by simp)
theorem Bk.next (x : Bk M H s bk b0 b1 n) (a : Adv [s] H H') (hs : StrAt M H' s) : Bk M H' s bk b0 b1 n := x.adv a (by simpa using x.ns0.symm) (by simpa using x.ns1.symm) (by simpa using x.ms) hs (by simpa using hs.here)
theorem Bk.fresh (x : Bk M H s bk b0 b1 n) (h : H p = none) {o : HO} : Bk (p :: M) (upd H p o) s bk b0 b1 n := by
  have y := x.same (Adv.new (o := o) h)
  obtain ⟨_, _, _, _, _, _, _, _, _, _, rs, ds, kvs, r1, r2, r3, r4, r5, r6, r7⟩ := id x
  obtain ⟨x1, x2, x3, x4, x5, x6, x7, x8, x9, xa, _⟩ := y
  obtain ⟨z1, z2, z3, z4, z5, z6, z7, z8, z9, za, _⟩ := id x
  have a : Adv [] H (upd H p o) := Adv.new h
  exact ⟨(z1.fresh h).same a, x2, by simp [x3], by simp [x4], by simp [x5], fun z => (List.mem_cons.mp z).elim (ne_of_none z2 h) x6, x7, x8, x9,
    fun b hb => by
      rcases List.mem_cons.mp hb with e | hb
      · rw [e, upd_same]; simp
      · exact xa b hb, ⟨rs, ds, kvs, a.same _ _ r1, r2, (r3.fresh h).adv (a.more (by simp)), r4, a.same _ _ r5, r6, r7⟩⟩
theorem Bk.less (x : Bk (p :: M) H s bk b0 b1 n) (h1 : s ∈ M) (h2 : b0 ∈ M) (h3 : b1 ∈ M) : Bk M H s bk b0 b1 n := by
  obtain ⟨x1, x2, x3, x4, x5, x6, x7, x8, x9, xa, rs, ds, kvs, r1, r2, r3, r4, r5, r6, r7⟩ := x
  have m : ∀ b ∈ M, b ∈ p :: M := fun b hb => List.mem_cons_of_mem _ hb
  exact ⟨x1.less m, x2, h1, h2, h3, fun z => x6 (m _ z), x7, x8, x9, fun b hb => xa b (m b hb), ⟨rs, ds, kvs, r1, r2, r3.less m, r4, r5, r6, r7⟩⟩
theorem Bk.cong {m : Nat} (x : Bk M H s bk b0 b1 n) (e : n = m) : Bk M H s bk b0 b1 m := e ▸ x
end
theorem Bk.alloc {M : List Addr} {H : Hp} {s bk b0 b1 p : Addr} {n : Nat} (x : Bk M H s bk b0 b1 n) (h : H p = none) : p ≠ s ∧ p ≠ bk ∧ p ≠ b0 ∧ p ≠ b1 := by
  obtain ⟨x1, x2, x3, x4, x5, x6, x7, x8, x9, xa, rs, ds, kvs, r1, r2, r3, r4, r5, r6, r7⟩ := x
  refine ⟨fun z => x1.here (by rw [← z]; exact h), fun z => ?_, fun z => ?_, fun z => ?_⟩
  · rw [← z, h] at x2; cases x2
  · rw [← z, h] at r1; cases r1
  · rw [← z, h] at r5; cases r5
theorem Bk.put {M : List Addr} {H : Hp} {s bk b0 b1 D : Addr} {n : Nat} {o : HO} (x : Bk (D :: M) H s bk b0 b1 n) (h1 : D ≠ s) (h2 : D ≠ b0) (h3 : D ≠ b1) : Bk (D :: M) (upd H D o) s bk b0 b1 n :=
  x.adv (N := [D]) (Adv.set (by simp)) (by simpa using h2.symm) (by simpa using h3.symm) (by simp) (x.str.adv (N := [D]) (Adv.set (by simp)) (by simpa using h1.symm) (by simp)) (fun b hb => by rw [List.mem_singleton.mp hb, upd_same]; simp)
theorem Adv.one {s b0 b1 : Addr} {H H' : Hp} (a : Adv [s] H H') : Adv [s, b0, b1] H H' := a.more (by simp)
theorem Adv.two {s b0 b1 : Addr} {H H' : Hp} (a : Adv [b0, b1] H H') : Adv [s, b0, b1] H H' := a.more (by simp)
theorem Adv.nil {N : List Addr} {H H' : Hp} (a : Adv [] H H') : Adv N H H' := a.more (by simp)
theorem kV_str (x : Str) : kV (.inr x) = .str x := rfl
theorem kV_int (x : Int) : kV (.inl x) = .int x := rfl
/-! ### written data: what a display gives -/
def DE (te : TE) (σ : L2.St) (d : PyData) : Prop := ∀ (M : List Addr) (H : Hp) (Q : VK), (∀ b ∈ M, H b ≠ none) → (∀ v H', Is M H' d v → Adv [] H H' → Q v H') → te σ H Q
def DA (ta : TA) (σ : L2.St) (ds : List PyData) : Prop := ∀ (M : List Addr) (H : Hp) (Q : List V → Hp → Prop), (∀ b ∈ M, H b ≠ none) → (∀ vs H', IsDs M H' ds vs → Adv [] H H' → Q vs H') → ta σ H Q
theorem Adv.alloc {M : List Addr} {H H' : Hp} (a : Adv [] H H') (h : ∀ b ∈ M, H b ≠ none) : ∀ b ∈ M, H' b ≠ none := fun b hb => by
  cases e : H b with
  | none => exact absurd e (h b hb)
  | some o => rw [a.same _ _ e]; simp
section
variable {σ : L2.St} {te : TE} {ta : TA} {d : PyData} {ds : List PyData}
theorem de_int {i : Int} : DE (tC (.int i)) σ (.int i) := fun M H Q _ k => k _ _ .int (Adv.refl _ _)
theorem de_str {x : Str} : DE (tC (.str x)) σ (.str x) := fun M H Q _ k => k _ _ .str (Adv.refl _ _)
theorem de_bl {b : Bool} : DE (tC (.bl b)) σ (.bool b) := fun M H Q _ k => k _ _ .bl (Adv.refl _ _)
theorem de_non : DE (tC .non) σ .none := fun M H Q _ k => k _ _ .non (Adv.refl _ _)
theorem de_neg {i : Int} : DE (tUn (rU fun i => .int (-i)) (tC (.int i))) σ (.int (-i)) := fun M H Q _ k => ⟨i, rfl, k _ _ .int (Adv.refl _ _)⟩
theorem de_var {j : Nat} {i : Int} (h : σ[j]? = some (some (.int i))) : DE (tVar j) σ (.int i) := fun M H Q _ k => ⟨_, h, k _ _ .int (Adv.refl _ _)⟩
theorem de_varop {j : Nat} {i c : Int} {f : Int → Int → Int} (h : σ[j]? = some (some (.int i))) : DE (tOp (rI0 fun i j => .int (f i j)) (tVar j) (tC (.int c))) σ (.int (f i c)) := fun M H Q _ k => ⟨_, h, i, c, rfl, rfl, k _ _ .int (Adv.refl _ _)⟩
theorem de_pow {i c : Int} (h : CPow i c) : DE (tOp (rI CPow fun i j => .int (i ^ j.toNat)) (tC (.int i)) (tC (.int c))) σ (.int (i ^ c.toNat)) := fun M H Q _ k => ⟨i, c, rfl, rfl, h, k _ _ .int (Adv.refl _ _)⟩
theorem de_tup (h : DA ta σ ds) (hl : ds.length ≤ 1000) : DE (tTup ta) σ (.tuple ds) := fun M H Q hM k => h M H _ hM fun vs H' x a =>
  ⟨by rw [x.len, sizeLine_eq]; omega, fun p np => k _ _ (Is.tup upd_same (not_mem_new (a.alloc hM) np) (x.adv (Adv.nil (Adv.new np)))) (a.newT np)⟩
theorem de_lst (h : DA ta σ ds) (hl : ds.length ≤ 1000) : DE (tLst ta) σ (.list ds) := fun M H Q hM k => h M H _ hM fun vs H' x a =>
  ⟨by rw [x.len, sizeLine_eq]; omega, fun p np => k _ _ (Is.lst upd_same (not_mem_new (a.alloc hM) np) (x.adv (Adv.nil (Adv.new np)))) (a.newT np)⟩
theorem de_dic : DE tDNewK σ (.dict []) := fun M H Q hM k => fun p np => k _ _ (Is.dic upd_same (not_mem_new hM np)) (Adv.new np)
theorem da_nil : DA tNil σ [] := fun M H Q _ k => k _ _ .nil (Adv.refl _ _)
theorem da_cons (h1 : DE te σ d) (h2 : DA ta σ ds) : DA (tCons te ta) σ (d :: ds) := fun M H Q hM k => h1 M H _ hM fun v H1 x1 a1 => h2 M H1 _ (a1.alloc hM) fun vs H2 x2 a2 => k _ _ (.cons (x1.adv (Adv.nil a2)) x2) (a1.trans a2)
end
end LL

set_option Elab.async false
set_option linter.all false
set_option maxRecDepth 100000
set_option maxHeartbeats 4000000
namespace LL
open PySem PySem.Spec PyProof.Rows L2
variable [KW]
theorem IsDs.append_self {M : List Addr} {H : Hp} {ds : List PyData} {vs : List V} (h : IsDs M H ds vs) : ∀ n : Nat, IsDs M H (List.replicate n ds).flatten (List.replicate n vs).flatten
  | 0 => .nil
  | n + 1 => by
    rw [List.replicate_succ, List.replicate_succ, List.flatten_cons, List.flatten_cons]
    exact h.app (h.append_self n)
theorem de_rep {K : PySem.W.Frag} {σ : L2.St} {ta : TA} {ds : List PyData} {k : Int} (h : DA ta σ ds) (hl : ds ≠ [] ∧ ds.length ≤ 100) (hk : 2 ≤ k ∧ k ≤ 1000) : DE (tOp (rRepT K) (tTup ta) (tC (.int k))) σ (.tuple (List.replicate k.toNat ds).flatten) := fun M H Q hM kk => h M H _ hM fun vs H' x a =>
  ⟨by rw [x.len, sizeLine_eq]; omega, fun p np => ⟨p, k, vs, rfl, rfl, SqT.of upd_same, fun z => hl.1 (by have := x.len; rw [z] at this; exact List.length_eq_zero_iff.mp this.symm), hk.1, hk.2, by rw [x.len]; omega, fun q nq => by
    have a2 : Adv [] H (upd H' p (.tup vs)) := a.newT np
    exact kk _ _ (Is.tup upd_same (not_mem_new (a2.alloc hM) nq) ((x.append_self k.toNat).adv (Adv.nil ((Adv.new np).trans (Adv.new nq))))) (a2.newT nq)⟩⟩
theorem sz1_int (i : Int) : sz (.int i) = 1 := by unfold sz; rfl
theorem sz1_str (i : Str) : sz (.str i) = 1 := by unfold sz; rfl
theorem sz1_bool (i : Bool) : sz (.bool i) = 1 := by unfold sz; rfl
theorem sz1_none : sz .none = 1 := by unfold sz; rfl
theorem sz1_dict (l : List (PyData × PyData)) : sz (.dict l) = 1 := by unfold sz; rfl
theorem dep1_int (i : Int) : dep (.int i) = 0 := by unfold dep; rfl
theorem dep1_str (i : Str) : dep (.str i) = 0 := by unfold dep; rfl
theorem dep1_bool (i : Bool) : dep (.bool i) = 0 := by unfold dep; rfl
theorem dep1_none : dep .none = 0 := by unfold dep; rfl
theorem dep1_dict (l : List (PyData × PyData)) : dep (.dict l) = 0 := by unfold dep; rfl
end LL

set_option Elab.async false
set_option linter.all false
set_option maxRecDepth 100000
set_option maxHeartbeats 2000000
/-! LExc: raising with the context kept, clauses with a name, what is asked of a held error -/
namespace LL
open PySem PySem.Spec PyProof.Rows L2
/-! ### defs -/
section
variable {P : Program} {w : World} {K : PySem.W.Frag} {mg : Str → Option Value} {base : Heap}
theorem okXN {x qual : Str} {st : Stmt} {f : Addr} {fd : FuncData} {N ps : List Str} {k : Nat} {sp : Sp} (F : Fun K x qual st f fd) (S : FnScope N ps (defScope st))
    (len : ∀ vs H Q E, sp vs H Q E → vs.length = ps.length)
    (hb : ∀ (cdv : Value) (A : Around) (outer : List Env) (s : Shared) (H : Hp) (vs : List V) (Q : VK) (E : XK), Room k (A.deeper (envOfC qual (defScope st) s.heap.objs.size f cdv)) → sp vs H Q E →
      ∃ t, PSs (cxOf (L2N.CX P w) P w K mg base N qual (defScope st) f cdv A outer s H E) (defBody st) t ∧ t { nx := fun _ H' => Q .non H', rt := Q } (L2.start N vs) H) :
    FnOk P w K mg base (L2N.CX P w) (k + 1) f fd ps sp := by
  obtain ⟨o1, o2, kV, doc, pm, an, cdv, ct, osl, e, lk, hcd⟩ := F.ex
  subst e
  exact fn_of lk hcd S len fun A outer s H vs Q E hr hs => hb cdv A outer s H vs Q E hr hs
theorem okH {x qual : Str} {st : Stmt} {f : Addr} {fd : FuncData} {N ps : List Str} {k : Nat} {sp : Sp} (F : Fun K x qual st f fd) (S : FnScope N ps (defScope st))
    (len : ∀ vs H Q E, sp vs H Q E → vs.length = ps.length)
    (hb : ∀ (cdv : Value) (A : Around) (outer : List Env) (s : Shared) (H : Hp) (vs : List V) (Q : VK) (E : XK) (p : Addr × Obj), L2H.Hot1 A p → L2H.RoomH k (A.deeper (envOfC qual (defScope st) s.heap.objs.size f cdv)) → sp vs H Q E →
      ∃ t, PSs (L2H.cxH CX0 P w K mg base N qual (defScope st) f cdv A outer s H E p) (defBody st) t ∧ t { nx := fun _ H' => Q .non H', rt := Q } (L2.start N vs) H) :
    L2H.FnH P w K mg base CX0 (k + 1) f fd ps sp := by
  obtain ⟨o1, o2, kV, doc, pm, an, cdv, ct, osl, e, lk, hcd⟩ := F.ex
  subst e
  exact L2H.fn_ofH lk hcd S len fun A outer s H vs Q E p h1 h2 h3 => hb cdv A outer s H vs Q E p h1 h2 h3
end
/-! ### making an error -/
section
variable {X : Cx} {x : Str} {e : Expr} {es : List Expr} {ta : TA} {p pos : Pos}
theorem pmk_noargN {C : Addr} {bmB : List Value} {B newId initId : String} (F : ExcBaseFacts B newId initId bmB) (q : PySem.W.excIn X.K C bmB newId = true) (gC : X.mg x = some (.ref C)) (kC : PySem.W.keepIn X.K (.ref C) = true) (r : Raises X (.ref C)) (hg : Gl X x)
    (hdb : (x == ("__debug__" : Str)) = false := by decide) : L2N.PMk X (.Call (.Name x p) [] [] pos) (fun _ H Q => Q (.ref C) none H) := by
  intro pins s σ H Q I h
  refine wpAny_Call_Name_kw (ld_glob I hg gC ?_ hdb)
  refine PySem.W.callWith_K0 I.kIn kC ?_
  obtain ⟨bm, N, nm, qn, bs, hdct, sn, sub, ab, col, dd, k0, k1, k2, k3, k5, mN, hC, hN, hni, T⟩ := exc_obj I.kIn q
  exact wpAny_call_exc_subT F T hC hN hni (fun h' e hm => L2N.mk_of I hm r h (I.hok.gone hm.new)) (Nat.zero_le _)
theorem pmk_initN {CX : CXT} {C fI : Addr} {k : Nat} {fd : FuncData} {ps : List Str} {sp : Sp} {ds : List Value} {dvs : List V} (T : OexC X.K C) (iC : PySem.W.findIn X.K (.ref C) "__init__" = some (some (.ref fI)))
    (tI : PySem.W.typeIn X.K (.ref fI) = some (.type "function")) (F1 : FnOk X.prog X.w X.K X.mg X.base CX k fI fd ps sp) (hr : Room (k + 1) X.A) (hb : Binds X.K fd ps ds) (hd : Vals dvs ds) (hx : Passes CX X (fun _ _ _ => False)) (hg : Gl X x) (hm : X.mg x = some (.ref C))
    (ha : PA X (e :: es) ta) (hdb : (x == ("__debug__" : Str)) = false := by decide) (he : starEach (e :: es) X.env = (false, eval e X.env) :: starEach es X.env := by rfl) (hpl : (backTo pos (starEach es X.env)).any (·.1) = false := by rfl) :
    L2N.PMk X (.Call (.Name x p) (e :: es) [] pos) (tMkO C sp dvs ta) := by
  intro pins s σ H Q I h
  obtain ⟨nm, q, N, bs, bm, sn, sub, ab, col, dd, k0, k1, k2, k3, k5, hC, hbm⟩ := T.cls
  refine wpAny_Call_Name_kw (ld_glob I hg hm ?_ hdb)
  refine PySem.W.callWith_K (h₀ := X.base) I.ok.mod.kin T.kC (thn (ha.run pos pins s σ H _ I h) fun us s1 ⟨vs, H1, I1, r1, hz, q1⟩ => ⟨I1.kIn, ?_⟩) he hpl
  show wpAny _ _ (call (.ref C) us) _ _ _
  obtain ⟨hp, g, dr, tk, os⟩ := s1
  have ln : hp.objs.size ≤ hp.objs.size + 1 := Nat.le_succ _
  have fr : H1 (hp.objs.size + 1) = none := I1.hok.fresh ln
  have spq := q1 (hp.objs.size + 1) fr
  have old : ∀ b o, hp.get? b = some o → ((hp.push (PySem.W.kdv_tup us)).push (PySem.HandSPX.excO C hp.objs.size)).get? b = some o := fun b o e => Heap.get?_push_of_some _ (Heap.get?_push_of_some _ e)
  have its : ((hp.push (PySem.W.kdv_tup us)).push (PySem.HandSPX.excO C hp.objs.size)).get? (hp.objs.size + 1) = some (PySem.HandSPX.excO C hp.objs.size) := by heap_get
  have I2 : Inv X pins σ (upd H1 (hp.objs.size + 1) (exo (hp.objs.size + 1) C none)) ⟨(hp.push (PySem.W.kdv_tup us)).push (PySem.HandSPX.excO C hp.objs.size), g, dr, tk, os⟩ :=
    I1.laid (t' := tk) (a := hp.objs.size + 1) (o := exo (hp.objs.size + 1) C none) (h' := (hp.push (PySem.W.kdv_tup us)).push (PySem.HandSPX.excO C hp.objs.size)) old ln (exo_ok its)
  have vr : Vals (V.ref (hp.objs.size + 1) :: (vs ++ dvs)) (Value.ref (hp.objs.size + 1) :: (us ++ ds)) := .cons rfl (r1.append hd)
  have hl : (Value.ref (hp.objs.size + 1) :: us ++ ds).length = ps.length := by
    have e := vr.length
    rw [F1.len _ _ _ _ spq] at e
    exact e.symm
  have su : us.length ≤ sizeLine := by
    have := Paired.length r1
    rw [sizeLine_eq]; omega
  refine wpAny_call (PySem.HandSPX.call_own F.excBase_ValueError (fun Y => PySem.HandSPX.refsVE_contains Y bm hbm) (I1.kIn _ _ hC) (PySem.W.looks_findIn I1.kIn iC) (fun self => PySem.W.bind_fn I1.kIn self tI) su
    (codeAny_mono (F1.run _ X.stack _ _ ⟨Value.ref (hp.objs.size + 1) :: us, []⟩ (Value.ref (hp.objs.size + 1) :: (us ++ ds)) _ _ (fun _ _ _ => False) (hr.make C us []) (I2.env0.make C us []) (hb _ (Value.ref (hp.objs.size + 1) :: us) I2.kIn hl) vr spq) fun r s' hq => ?_))
  cases r with
  | error er => exact hx pins σ _ _ er s' I2 hq
  | ok fl =>
    cases fl with
    | next => exact False.elim hq
    | brk => exact False.elim hq
    | cont => exact False.elim hq
    | ret u =>
      obtain ⟨v, H2, o2, b2, u2, k2', rv, ev, d, fs, ea, ed, hd1, q2⟩ := hq
      subst ev
      obtain ⟨h2, g2, d2, t2, os'⟩ := s'
      obtain ⟨t0, G, J, kG, ge, hoe, na⟩ := mk_end0 (d2 := d2) (t2 := t2) I1 ln old u2 k2' o2 b2 ea ed hd1
      exact ⟨rv, hp.objs.size + 1, _, _, ⟨G, g2, d2, t2, os'⟩, _, .ref C, some d, rfl, J, kG, ge, hoe, ⟨rfl, rfl, fun vs e => by cases e; rfl⟩, rfl, rfl, na, rfl, b2, raises_own T.exC T.tyC, q2⟩
end
/-! ### list.count, flat items -/
def rCntF (K : PySem.W.Frag) : V → List V → Hp → VK → Prop := fun x xs H Q => ∃ (a : Addr) (ys : List V) (y : V), x = V.ref a ∧ xs = [y] ∧ SqL K H a ys ∧ flatV y = true ∧ ys.all flatV = true ∧ Q (.int ((ys.countP fun z => eqV z y) : Nat)) H
theorem count_eqU {y : V} : ∀ {ys : List V} {its : List Value}, Vals ys its → ys.all flatV = true → its.countP (eqU y) = ys.countP fun z => eqV z y
  | [], _, .nil, _ => rfl
  | z :: ys, u :: its, .cons r rs, h => by
    rw [List.all_cons, Bool.and_eq_true] at h
    rw [List.countP_cons, List.countP_cons, count_eqU rs h.2, eqU_of r h.1]
theorem mt_countF {X : Cx} : MtR X "list.count" (rCntF X.K) := by
  intro pins s σ H x xs v us Q I rx rxs h
  obtain ⟨a, ys, y, rfl, rfl, hs, fy, fys, q⟩ := h
  cases rx
  obtain ⟨u, rfl, ru⟩ := rxs.one
  obtain ⟨its, rv, ⟨⟨cls, dd, data, sl⟩, n, ho, hc, hdn, hd⟩, hlen⟩ := I.list hs
  simp only at hc hd
  subst hc hd
  refine call_meets PySem.F.slot_list_count ⟨_, ho, rfl⟩ PySem.F.entry_list_count (PySem.F.args_list_count_2 _ _)
    (SeqAt.list_countAt a its.toArray n dd sl u (eqU y)) ⟨ho, fun z hz => mem_eqAt ru fy rv fys z (by simpa using hz), ?_⟩
  refine ⟨.int ((ys.countP fun z => eqV z y) : Nat), H, I.tok _, ⟨s.toks, ?_⟩, q⟩
  rw [← count_eqU rv fys]
end LL

set_option Elab.async false
set_option linter.all false
set_option maxRecDepth 100000
set_option maxHeartbeats 2000000
/-! LExd: isinstance of a held error whatever its dict; try with clauses that name the error -/
namespace LL
open PySem PySem.Spec PyProof.Rows L2
section
open PySem.W PySem.Calls
variable {prog : Program} {w : World} {A : Around} {E : Value → Shared → Prop} {s : Shared} {K : Frag} {x D : Addr} {ox : Obj} {od : Option Obj}
theorem held_class {Q : Option Value → Shared → Prop} (C : ExcC K D) (X : K.In s.heap) (I : InstAt s.heap x ox D od) (h : Q (some (.ref D)) { s with toks := s.toks + 1 }) :
    wpAny (model prog w) A (getAttr? (.ref x) "__class__") Q E s := by
  have hf : findObj K D od "__class__" = some (.bind (.builtin "getset_descriptor.__get__") (.builtin "object.__class__")) := by
    obtain ⟨cd, hc, _⟩ := any_some C.hd
    unfold findObj
    rw [hc, Option.bind_some, C.ha, Option.bind_some]
    simp [C.hn, C.ht]
  obtain ⟨hp, g, d, t, os⟩ := s
  have L0 := I.type (M := model prog w)
  have L1 := looks_findIn (M := model prog w) X C.hg
  have L2' := looks_findIn (M := model prog w) X C.hk
  have L3 := looks_find (M := model prog w) X I hf
  have sub : Looks (model prog w) hp (isInstance (.ref x) (.type "BaseException")) true := L0.andThen (looks_subIn X C.hs)
  have y0 : (false && onTheHeap (Value.builtin "BaseException.__getattribute__")) = false := rfl
  have y2 : (Value.builtin "BaseException.__getattribute__" == Value.builtin "object.__getattribute__") = false := by decide +kernel
  have y1 : (onTheHeap (Value.ref D) && Value.builtin "BaseException.__getattribute__" == Value.builtin "object.__getattribute__") = false := by rw [y2]; rfl
  unfold getAttr? getAttrBy? getAttrBy
  refine wpAny_bind (wpAny_mkText (wpAny_bind (wpAny_attempt (wpAny_holding (wpAny_bind (L0.at (wpAny_bind (L1.at ?_))))))))
  show wpAny _ _ (if (onTheHeap (Value.ref D) && Value.builtin "BaseException.__getattribute__" == Value.builtin "object.__getattribute__") = true then _ else _) _ _ _
  rw [y1, if_neg Bool.false_ne_true]
  unfold getAttrByItsOwn hookBefore
  refine wpAny_bind ?_
  rw [if_pos (show onTheHeap (Value.ref D) = true from rfl)]
  refine L2'.at (wpAny_bind (wpAny_attempt (wpAny_holding ?_)))
  unfold callGetattribute
  rw [y0, if_neg Bool.false_ne_true]
  unfold boundAndCalled
  rw [PySem.F.excAttr_ValueError.ga.bind (.ref x)]
  refine wpAny_bind (wpAny_pure ?_)
  show wpAny _ _ (call (.builtin "BaseException.__getattribute__") [.ref x, .str "__class__" t]) _ _ _
  refine wpAny_call (codeAny_call_builtin PySem.F.excAttr_ValueError.ga.plain PySem.F.entry_bexc_ga ?_)
  refine @check_slot (model prog w) _ _ ⟨hp, g, d, t + 1, os⟩ "BaseException.__getattribute__" "BaseException" "__getattribute__" (.ref x) [.str "__class__" t] [] _ (by decide +kernel) (by decide +kernel) sub (PySem.F.args_bexc_ga (.ref x) (.str "__class__" t)) ?_
  unfold Builtin.«object.__getattribute__»
  refine wpAny_bind (wpAny_of_eq (a := ((Value.ref x : Value), [Value.str "__class__" t])) (by first | rfl | (simp only [slotArgs]; rfl)) ?_)
  refine wpAny_bind (wpAny_pure (wpAny_bind (L0.at (wpAny_bind (L3.at ?_)))))
  show wpAny _ _ (holding [Value.builtin "object.__class__"] (call (.builtin "getset_descriptor.__get__") [.builtin "object.__class__", .ref x, .ref D]) >>= ret) _ _ _
  refine wpAny_bind (wpAny_holding (wpAny_call (class_get (s := ⟨hp, g, d, t + 1, os⟩) (ox := ox) (od := od) X I C.hm ?_)))
  refine wpAny_pure ?_
  show wpAny _ _ (handedOut (.ref D)) _ _ _
  rw [handedOut_of (v := .ref D) rfl]
  first
    | exact wpAny_pure (wpAny_pure h)
    | exact wpAny_pure h
    | exact wpAny_pure (wpAny_bind (wpAny_pure (wpAny_pure h)))
theorem held_kit (C : ExcC K D) : KitX K (.ref x) (.ref D) (fun h => InstAt h x ox D od) := by
  refine ⟨fun _ _ _ I => I.type, fun _ _ X _ => ?_, fun h tp dd its n sl X htp => ?_, fun X I k => held_class C X I k⟩
  · obtain ⟨cdD, hcD, _⟩ := any_some C.hd
    unfold clsIn at hcD
    split at hcD
    · rename_i c' d' cd' sl' ho
      intro A' Q' E' s' k q
      unfold isType loadHead
      exact wpAny_bind (wpAny_loadPart (k _ _ (X _ _ ho)) (wpAny_pure q))
    · cases hcD
  · obtain ⟨cdD, hcD, _⟩ := any_some C.hd
    refine Bool.eq_false_iff.mpr fun q => ?_
    obtain rfl : D = tp := Value.ref.inj (beq_iff_eq.mp q)
    unfold clsIn at hcD
    split at hcD
    · rename_i c' d' cd' sl' ho
      cases (X _ _ ho).symm.trans htp
    · cases hcD
end
/-- isinstance(e, c), e a held error at a, of class D, its dict d -/
def rIsP (K : PySem.W.Frag) (D a : Addr) (d : Option Addr) : List V → Hp → VK → Prop := fun xs H Q => ∃ (c : V) (cv : Value) (b : Bool), xs = [.ref a, c] ∧ (∀ u, RelV c u → u = cv) ∧ (∀ dd, d = some dd → ∃ fs, H dd = some (.xd fs)) ∧ PySem.W.kitOne K (.ref D) cv = some b ∧ Q (.bl b) H
theorem call_isP {X : Cx} {a D : Addr} {oe : Obj} {d : Option Addr} (C : ExcC X.K D) (hz : Zc (.ref D) d oe) (hf : ∃ vs, oe.data = .fields vs) (hp : (a, oe) ∈ X.pn) : CallR X (.builtin "isinstance") (rIsP X.K D a d) := by
  intro pins s σ H xs us Q I r h
  obtain ⟨c, cv, b, rfl, hcv, hd, e, q⟩ := h
  cases r with
  | cons rx rr =>
    cases rr with
    | cons rt rr =>
      cases rr
      cases rx
      have ec := hcv _ rt
      subst ec
      obtain ⟨hget, _⟩ := I.pin (a, oe) (List.mem_append.mpr (.inl hp))
      obtain ⟨vs, hv⟩ := hf
      have J : ∃ od, PySem.W.InstAt s.heap a oe D od := by
        obtain ⟨oc, o1, oda, osl⟩ := oe
        obtain ⟨h1, h2⟩ := hz
        dsimp only at h1 h2 hv
        subst h1 h2 hv
        cases o1 with
        | none => exact ⟨none, hget, rfl, rfl, trivial⟩
        | some dd =>
          obtain ⟨fs, ea⟩ := hd dd rfl
          obtain ⟨mA, hns, _⟩ := I.hok dd _ ea
          obtain ⟨od, ho, _⟩ := lookIn_ns hns
          exact ⟨some od, hget, rfl, rfl, ho⟩
      obtain ⟨od, J⟩ := J
      exact PySem.W.kia_one (held_kit C) I.kIn J e (fun z => nomatch z) fun tk => ⟨.bl b, H, I.kept (t' := tk) fun _ _ z => z, rfl, q⟩
/-! ### try with clauses that name the error -/
def wAsMany (K : PySem.W.Frag) (i : Nat) (Wout : WX) (D : Ends) : List (Value × (Addr → Value → Option Addr → TS)) → WX
  | [] => Wout
  | (c, ts) :: l => fun cls d σ H => ∃ b, PySem.W.exmOne K cls c = some b ∧
      (b = true → ∀ a, H a = none → ts a cls d { nx := fun σ' H' => D.nx (σ'.set i none) H', rt := D.rt, bk := fun σ' H' => D.bk (σ'.set i none) H', ct := fun σ' H' => D.ct (σ'.set i none) H' } (σ.set i (some (.ref a))) H) ∧
      (b = false → wAsMany K i Wout D l cls d σ H)
inductive HdsAs (X : Cx) (n : Str) : List ExceptHandler → List (Value × (Addr → Value → Option Addr → TS)) → Prop
  | nil : HdsAs X n [] []
  | cons {x : Str} {c : Value} {ts : Addr → Value → Option Addr → TS} {b₀ : Stmt} {suite : List Stmt} {np pos' : Pos} {hds : List ExceptHandler} {l : List (Value × (Addr → Value → Option Addr → TS))} (hc : Names X x c)
      (hsu : ∀ (a : Addr) (oe : Obj) (cls : Value) (d : Option Addr) (pn : List (Addr × Obj)), L2N.Zn cls d oe → (∃ vs, oe.data = .fields vs) → PSs (X.suite a ((a, oe) :: pn)) (b₀ :: suite) (ts a cls d)) (r : HdsAs X n hds l) :
      HdsAs X n (.ExceptHandler (some (.Name x np)) (some n) (b₀ :: suite) pos' :: hds) ((c, ts) :: l)
section
open L2N
variable {X : Cx} {n : Str} {i : Nat} {body : List Stmt} {h₀ : ExceptHandler} {hds : List ExceptHandler} {l : List (Value × (Addr → Value → Option Addr → TS))} {pos : Pos} {tb : WX → TS} {Wout : WX}
theorem ps_tryAs (hs : X.stack = X.env :: X.outer) (hf : X.env.frame = some X.env.locals) (hN : X.N.Nodup) (hi : X.N[i]? = some n) (hln : X.env.kindOf n = some .local) (tk : L2N.Takes X Wout)
    (hb : ∀ (W : WX) (pn : List (Addr × Obj)) (xe : Value → Shared → Prop), L2N.Takes (X.tr pn xe) W → PassesOwn (model X.prog X.w) X.A X.env xe → PSs (X.tr pn xe) body (tb W))
    (hh : HdsAs X n (h₀ :: hds) l) : PS X (.Try body (h₀ :: hds) [] [] pos) (fun D σ H => tb (wAsMany X.K i Wout D l) D σ H) := by
  refine ⟨fun pins s σ H D I h => ?_⟩
  have ok := I.ok
  have hfr : X.A.frames = some (X.env :: X.outer) := by rw [ok.frames, hs]
  have hloc : Loc X.env.scope n := .inl hln
  refine wpAny_Try_except (wpAny_mono ((hb (wAsMany X.K i Wout D l) (X.pn ++ pins) (fun e s₁ => wpAny (model X.prog X.w) X.A (noteFrame e X.env) (fun _ s₂ => wpAny (model X.prog X.w) X.A (setFlight e none) (fun _ s₃ =>
    wpAny (model X.prog X.w) X.A (handleBy e X.env (h₀ :: hds)) (SP X pins D) X.xe s₃) X.xe s₂) X.xe s₁) (fun u s' xx => ?_) PassesOwn.looking).run [] s σ H D (I.toTry _) h) (fun f s1 hsp => ?_) (fun e s1 he => he))
  · obtain ⟨a, B, sI, pins', σ', H', cls, d, rfl, J', nb, up, sky, na, os, ag, w⟩ := xx
    have J : Inv X pins σ' H' sI := J'.ofTry ok
    show wpAny (model X.prog X.w) X.A (noteFrame (.ref a) X.env) _ _ _
    refine L2N.Sky.land (B := B) (L := X.env.locals) Zn.steady hfr hf (by rw [← hs]; exact sky) fun h3 fl3 up3 => ?_
    have J3 : Inv X pins σ' H' { s' with heap := h3 } := J.landed nb fl3.1 (up.trans up3) os ag
    obtain ⟨oe3, vs3, he3, hz3, hd3⟩ := fl3.there
    have nfr : a ∉ frs (X.env :: X.outer) := fun hm => by
      obtain ⟨_, o', e', hnf⟩ := fl3.2.2.1.mem hm
      rw [he3] at e'; cases e'
      exact hnf _ hd3
    have nL : a ≠ X.env.locals := fun z => nfr (List.mem_filterMap.mpr ⟨X.env, List.mem_cons_self, by rw [hf, z]⟩)
    have nF : a ∉ X.fs := fun hm => by
      obtain ⟨e, he, q⟩ := List.mem_filterMap.mp hm
      exact nfr (List.mem_filterMap.mpr ⟨e, List.mem_cons_of_mem _ he, q⟩)
    have S3 := J3.suite he3 hd3 na nL nF
    have go : ∀ {hds' : List ExceptHandler} {l' : List (Value × (Addr → Value → Option Addr → TS))}, HdsAs X n hds' l' → wAsMany X.K i Wout D l' cls d σ' H' →
        wpAny (model X.prog X.w) X.A (handleBy (.ref a) X.env hds') (SP X pins D) X.xe { s' with heap := h3 } := by
      intro hds' l' hk
      induction hk with
      | nil =>
        intro w
        refine wpAny_handleBy_nil ?_
        obtain ⟨k1, k2, k3, oe, vs, T, oT, ts', he, hz, hd, h1, hr⟩ := id fl3
        unfold PySem.passOn
        refine wpAny_bind (wpAny_field he hd h1 ?_)
        rw [if_neg (show ¬ ((Value.ref T == Value.none) = true) from by simp)]
        have fin : wpAny (model X.prog X.w) X.A (setFlight (.ref a) X.env.frame) (fun _ s4 => wpAny (model X.prog X.w) X.A (throw (.ref a) : Sem Flow) (SP X pins D) X.xe s4) X.xe { s' with heap := h3 } := by
          rw [hf]
          exact HandSPX.setFlight_upZ fl3 fun h4 hh4 up4 => wpAny_throw (tk _ _ ⟨a, B, sI, pins, σ', H', cls, d, rfl, J, nb, (up.trans up3).trans up4, .inr (.inr (by rw [hs]; exact hh4)), na, os, ag, w⟩)
        first
          | exact wpAny_bind (wpAny_pure (wpAny_bind fin))
          | exact wpAny_bind fin
      | @cons x c ts b₀ suite np pos' hds2 l2 hc hsu r ih =>
        intro w
        obtain ⟨b, hb1, hyes, hno⟩ := w
        refine wpAny_handleBy_cons (codeAny_handlers_test ?_) (by intro q; cases q)
        have LT : PySem.W.Looks (model X.prog X.w) h3 (typeOf (.ref a)) cls := fun A Q E s k q => wpAny_typeOf_ref (k _ _ he3) (by rw [hz3.1]; exact q)
        have LM := PySem.W.exm_one (M := model X.prog X.w) (J3.kIn) LT hb1
        have test : ∀ {Q : Value → Shared → Prop} {E : Value → Shared → Prop}, Q c { s' with heap := h3 } → wpAny (model X.prog X.w) (X.A.mark (some (.ref a))) (eval (.Name x np) X.env) Q E { s' with heap := h3 } := fun {Q E} q => by
          obtain ⟨hg, hdbg, hm | ⟨hm, hv, hnn⟩⟩ := hc
          · exact ld_glob (X := X.suite a ((a, oe3) :: (X.pn ++ pins))) S3 hg hm q hdbg
          · exact ld_blt (X := X.suite a ((a, oe3) :: (X.pn ++ pins))) S3 hg hm hv q hnn hdbg
        refine test (LM.here ?_)
        cases b with
        | false =>
          show wpAny _ X.A (handleBy (.ref a) X.env hds2) _ _ _
          exact ih (hno rfl)
        | true =>
          refine codeAny_handlers_suite_as (HandSPX.lands_againZ fl3 fun h4 fl4 up4 => ?_)
          have J4 : Inv X pins σ' H' { s' with heap := h4 } := J.landed nb fl4.1 ((up.trans up3).trans up4) os ag
          obtain ⟨oe4, vs4, he4, hz4, hd4⟩ := fl4.there
          have S4 := J4.suite he4 hd4 na nL nF
          refine store_ok (X := X.suite a ((a, oe4) :: (X.pn ++ pins))) (v := .ref a) S4 hN hi hloc rfl (fun s5 S5 => ?_) (.inr hln)
          refine wpAny_mono ((hsu a oe4 cls d (X.pn ++ pins) hz4 ⟨_, hd4⟩).run [] s5 _ H' _ S5 (hyes rfl a na)) (fun f s6 hsp => ?_) (fun _ _ z => False.elim z)
          have done : ∀ {σ6 : L2.St} {H6 : Hp} {Q : Shared → Prop}, Inv (X.suite a ((a, oe4) :: (X.pn ++ pins))) [] σ6 H6 s6 → (∀ s7, Inv X pins (σ6.set i none) H6 s7 → Q s7) →
              wpAny (model X.prog X.w) X.A (do bindName X.env n .none; unbindBehindTheSuite X.env n pos') (fun _ s7 => Q s7) X.xe s6 := fun {σ6 H6 Q} S6 hq => gone_ok (S6.unsuite ok) hN hi hln hq
          cases f with
          | ret u =>
            obtain ⟨v6, σ6, H6, S6, r6, q6⟩ := hsp
            exact done S6 fun s7 J7 => ⟨_, _, _, J7, r6, q6⟩
          | next => obtain ⟨σ6, H6, S6, q6⟩ := hsp; exact done S6 fun s7 J7 => ⟨_, _, J7, q6⟩
          | brk => obtain ⟨σ6, H6, S6, q6⟩ := hsp; exact done S6 fun s7 J7 => ⟨_, _, J7, q6⟩
          | cont => obtain ⟨σ6, H6, S6, q6⟩ := hsp; exact done S6 fun s7 J7 => ⟨_, _, J7, q6⟩
    exact go hh w
  · cases f with
    | next => obtain ⟨σ', H', J', q⟩ := hsp; exact wpAny_execs_nil ⟨σ', H', J'.ofTry ok, q⟩
    | brk => obtain ⟨σ', H', J', q⟩ := hsp; exact ⟨σ', H', J'.ofTry ok, q⟩
    | cont => obtain ⟨σ', H', J', q⟩ := hsp; exact ⟨σ', H', J'.ofTry ok, q⟩
    | ret u => obtain ⟨v, σ', H', J', r, q⟩ := hsp; exact ⟨v, σ', H', J'.ofTry ok, r, q⟩
end
end LL

set_option Elab.async false
set_option linter.all false
set_option maxRecDepth 100000
set_option maxHeartbeats 2000000
/-! LNam: a def that is called in an except suite with the held error itself -/
namespace LL
open PySem PySem.Spec PyProof.Rows L2 L2H
/-- what a def promises of a call whose argument may be the held error p -/
structure FnP (P : Program) (w : World) (K : PySem.W.Frag) (mg : Str → Option Value) (base : Heap) (k : Nat) (f : Addr) (fd : FuncData) (ps : List Str) (sp : Addr × Obj → Sp) : Prop where
  len : ∀ p vs H Q E, sp p vs H Q E → vs.length = ps.length
  run : ∀ (A : Around) (outer : List Env) (s : Shared) (H : Hp) (args : Args) (us : List Value) (vs : List V) (Q : VK) (E : XK) (p : Addr × Obj), RoomH k A → PinOk outer H s p → Env0 P w K mg base A outer s H → BindsTo s fd args (ps.zip us) → Vals vs us → sp p vs H Q E →
    codeAny (model P w) A (.call (.ref f) args) (CR CX0 outer P w H s Q E) s
theorem okP {P : Program} {w : World} {K : PySem.W.Frag} {mg : Str → Option Value} {base : Heap} {x qual : Str} {st : Stmt} {f : Addr} {fd : FuncData} {N ps : List Str} {k : Nat} {sp : Addr × Obj → Sp} (F : Fun K x qual st f fd) (S : FnScope N ps (defScope st))
    (len : ∀ p vs H Q E, sp p vs H Q E → vs.length = ps.length)
    (hb : ∀ (cdv : Value) (A : Around) (outer : List Env) (s : Shared) (H : Hp) (vs : List V) (Q : VK) (E : XK) (p : Addr × Obj), RoomH k (A.deeper (envOfC qual (defScope st) s.heap.objs.size f cdv)) → sp p vs H Q E →
      ∃ t, PSs (cxH CX0 P w K mg base N qual (defScope st) f cdv A outer s H E p) (defBody st) t ∧ t { nx := fun _ H' => Q .non H', rt := Q } (L2.start N vs) H) :
    FnP P w K mg base (k + 1) f fd ps sp := by
  obtain ⟨o1, o2, kV, doc, pm, an, cdv, ct, osl, e, lk, hcd⟩ := F.ex
  subst e
  constructor
  case len => exact len
  case run =>
    intro A outer s H args us vs Q E p hr hpin e0 hbd r hsp
    have hl := len _ _ _ _ _ hsp
    have inK : K.In s.heap := e0.mod.kin.keeps fun b o e => (e0.bs b o e).1
    have noLim : s.heap.NoLimit := e0.mod.nolimit.keeps fun b o e => (e0.bs b o e).1
    have kinds : ∀ y ∈ ps.zip us, (defScope st).names.lookup y.1 = some .local ∨ ((defScope st).names.lookup y.1 = some .cell ∧ ((cellsFrom (s.heap.objs.size + 1) (defScope st).names []).lookup y.1).isSome = true) := by
      rintro ⟨n, v⟩ hy
      rcases S.par n (List.of_mem_zip hy).1 with q | q
      · exact .inl q
      · exact .inr ⟨q, PySem.W.cellsFrom_some _ _ _ (.inl q)⟩
    refine codeAny_call_function hr.depth (inK _ _ lk) rfl S.co S.gen rfl (PySem.W.codeRec_of inK hcd) (hbd _ _ _ _ (wpAny_newFunctionEnv_cells S.kind kinds fun env he s1 x => ?_))
    subst he
    refine ⟨noLim.keeps x.toInCall.keep, codeAny_func ?_⟩
    obtain ⟨t, ht, hq⟩ := hb cdv A outer s H vs Q E p (hr.deeper _) hsp
    have I := inv_startH (CX := CX0) (mg := mg) (E := E) S hpin e0 hl r x
    refine wpAny_mono (ht.run [] s1 (L2.start N vs) H _ I hq) (fun fl s' hs => ?_) fun e s' hs => hs
    cases fl with
    | ret u =>
      obtain ⟨v, σ', H', J, rv, q⟩ := hs
      exact ⟨v, H', J.os, J.bare, J.base, J.hok, rv, q⟩
    | next =>
      obtain ⟨σ', H', J, q⟩ := hs
      exact ⟨V.non, H', J.os, J.bare, J.base, J.hok, rfl, q⟩
    | brk => obtain ⟨_, _, _, q⟩ := hs; exact q.elim
    | cont => obtain ⟨_, _, _, q⟩ := hs; exact q.elim
def tCallP (sp : Addr × Obj → Sp) (p : Addr × Obj) (E : XK) (t : TA) : TE := fun σ H Q => t σ H fun vs H1 => sp p vs H1 Q E
theorem pe_callP {X : Cx} {k : Nat} {f : Addr} {fd : FuncData} {ps : List Str} {sp : Addr × Obj → Sp} {E : XK} {x : Str} {q pos : Pos} {e : Expr} {es : List Expr} {t : TA} {p : Addr × Obj} (F : FnP X.prog X.w X.K X.mg X.base k f fd ps sp) (hr : RoomH k X.A) (hp : p ∈ X.pn) (hg : Gl X x)
    (hm : X.mg x = some (.ref f)) (hk : PySem.W.keepIn X.K (.ref f) = true) (hb : Binds X.K fd ps []) (ha : PA X (e :: es) t) (hdb : (x == ("__debug__" : Str)) = false := by decide) (he : starEach (e :: es) X.env = (false, eval e X.env) :: starEach es X.env := by rfl)
    (hpl : (backTo pos (starEach es X.env)).any (·.1) = false := by rfl) : PE X (.Call (.Name x q) (e :: es) [] pos) (tCallP sp p E t) := by
  refine ⟨fun pins s σ H Q I h => wpAny_Call_Name_kw (ld_glob I hg hm ?_ hdb)⟩
  refine PySem.W.callWith_K (h₀ := X.base) I.ok.mod.kin hk (thn (ha.run pos pins s σ H _ I h) fun us s1 ⟨vs, H1, I1, r, hs⟩ => ⟨I1.kIn, ?_⟩) he hpl
  have hl : us.length = ps.length := by rw [← r.length]; exact F.len _ _ _ _ _ hs
  have b := hb s1 us I1.kIn (by rw [List.append_nil]; exact hl)
  rw [List.append_nil] at b
  have P1 := I1.pin p (List.mem_append_left _ hp)
  have hpin : PinOk X.stack H1 s1 p := ⟨P1.1, P1.2.1, fun hm => (List.mem_cons.mp (I1.stkSub p.1 hm)).elim P1.2.2.1 P1.2.2.2.1, P1.2.2.2.2⟩
  refine wpAny_call (codeAny_mono (F.run X.A X.stack s1 H1 ⟨us, []⟩ us vs Q E p hr hpin I1.env0 b r hs) fun r s' hq => ?_)
  cases r with
  | error e => exact False.elim hq
  | ok fl =>
    cases fl with
    | ret u => exact I1.after hq
    | next => exact False.elim hq
    | brk => exact False.elim hq
    | cont => exact False.elim hq
end LL

set_option Elab.async false
set_option linter.all false
set_option maxRecDepth 100000
set_option maxHeartbeats 400000
namespace LL
open PySem PySem.Spec PyProof.Rows L2
variable [KW]
theorem szL_le {k : Nat} : ∀ {ds : List PyData}, (∀ d ∈ ds, sz d ≤ k) → szL ds ≤ k * ds.length
  | [], _ => by rw [szL_nil]; exact Nat.zero_le _
  | d :: ds, h => by
    have := szL_le (ds := ds) (fun x hx => h x (List.mem_cons_of_mem _ hx))
    have := h d List.mem_cons_self
    rw [szL_cons, List.length_cons, Nat.mul_succ]
    omega
theorem depL_le {k : Nat} : ∀ {ds : List PyData}, (∀ d ∈ ds, dep d ≤ k) → depL ds ≤ k
  | [], _ => by rw [depL_nil]; exact Nat.zero_le _
  | d :: ds, h => by
    have := depL_le (ds := ds) (fun x hx => h x (List.mem_cons_of_mem _ hx))
    have := h d List.mem_cons_self
    rw [depL_cons]
    omega
theorem IsDs.setV {M : List Addr} {H : Hp} {v : V} {d : PyData} (x : Is M H d v) : ∀ {ds : List PyData} {vs : List V} (j : Nat), IsDs M H ds vs → IsDs M H (ds.set j d) (vs.set j v)
  | [], vs, j, y => by
    unfold IsDs at y
    subst y
    exact IsDs.nil
  | e :: ds, vs, 0, y => by
    unfold IsDs at y
    obtain ⟨v', r, rfl, h1, h2⟩ := y
    exact IsDs.cons x h2
  | e :: ds, vs, j + 1, y => by
    unfold IsDs at y
    obtain ⟨v', r, rfl, h1, h2⟩ := y
    exact IsDs.cons h1 (IsDs.setV x j h2)
theorem mem_set {α : Type} {P : α → Prop} {d : α} (hd : P d) : ∀ {ds : List α} (j : Nat), (∀ x ∈ ds, P x) → ∀ x ∈ ds.set j d, P x := fun {ds} j h x hx => by
  rcases List.mem_or_eq_of_mem_set hx with h1 | h1
  · exact h x h1
  · rw [h1]; exact hd
/-- a sheet of good rows, a stream beside it -/
structure ShAt (H : Hp) (s sh : Addr) (rs : List V) (ds : List PyData) : Prop where
  str : StrAt [s] H s
  ne : sh ≠ s
  at_ : H sh = some (.lst rs)
  rd : IsDs [s] H ds rs
  len : ds.length ≤ 200
  sm : ∀ d ∈ ds, Small d
theorem ShAt.adv {H H' : Hp} {s sh : Addr} {rs : List V} {ds : List PyData} (x : ShAt H s sh rs ds) (a : Adv [s] H H') (hs : StrAt [s] H' s) : ShAt H' s sh rs ds :=
  ⟨hs, x.ne, a _ _ (by simpa using x.ne) x.at_, x.rd.adv a, x.len, x.sm⟩
theorem ShAt.same {H H' : Hp} {s sh : Addr} {rs : List V} {ds : List PyData} (x : ShAt H s sh rs ds) (a : Adv [] H H') : ShAt H' s sh rs ds := x.adv (Adv.nil a) (x.str.same a)
theorem ShAt.is {H : Hp} {s sh : Addr} {rs : List V} {ds : List PyData} (x : ShAt H s sh rs ds) : Is [s] H (.list ds) (.ref sh) := Is.lst x.at_ (by simpa using x.ne) x.rd
theorem sm_sz {ds : List PyData} (h : ∀ d ∈ ds, Small d) (hl : ds.length ≤ 200) : szL ds ≤ 800 := by
  have := szL_le (k := 4) (fun d hd => (h d hd).1)
  omega
theorem sm_dep {ds : List PyData} (h : ∀ d ∈ ds, Small d) : depL ds ≤ 1 := depL_le fun d hd => (h d hd).2.1
/-- a copy that is bent -/
structure BtAt (H : Hp) (s bt : Addr) (rs : List V) (ds : List PyData) : Prop where
  str : StrAt [bt, s] H s
  ne : bt ≠ s
  at_ : H bt = some (.lst rs)
  rd : IsDs [bt, s] H ds rs
  len : ds.length ≤ 300
  sm : ∀ d ∈ ds, sz d ≤ 10 ∧ dep d ≤ 3
theorem BtAt.al {H : Hp} {s bt : Addr} {rs : List V} {ds : List PyData} (x : BtAt H s bt rs ds) : ∀ b ∈ [bt, s], H b ≠ none := fun b hb => by
  simp at hb
  rcases hb with h | h
  · rw [h, x.at_]; simp
  · rw [h]; exact x.str.here
theorem BtAt.adv {H H' : Hp} {s bt : Addr} {rs : List V} {ds : List PyData} (x : BtAt H s bt rs ds) (a : Adv [s] H H') (hs : StrAt [bt, s] H' s) : BtAt H' s bt rs ds :=
  ⟨hs, x.ne, a _ _ (by simpa using x.ne) x.at_, x.rd.adv (a.more (by simp)), x.len, x.sm⟩
theorem BtAt.same {H H' : Hp} {s bt : Addr} {rs : List V} {ds : List PyData} (x : BtAt H s bt rs ds) (a : Adv [] H H') : BtAt H' s bt rs ds := x.adv (Adv.nil a) (x.str.same a)
theorem BtAt.is {H : Hp} {s bt : Addr} {rs : List V} {ds : List PyData} (x : BtAt H s bt rs ds) : Is [] H (.list ds) (.ref bt) := Is.lst x.at_ (by simp) (x.rd.less (by simp))
theorem BtAt.szB {H : Hp} {s bt : Addr} {rs : List V} {ds : List PyData} (x : BtAt H s bt rs ds) : sz (.list ds) ≤ 500000 := by
  have := szL_le (k := 10) (fun d hd => (x.sm d hd).1)
  have := x.len
  rw [sz_lst]
  omega
theorem BtAt.depB {H : Hp} {s bt : Addr} {rs : List V} {ds : List PyData} (x : BtAt H s bt rs ds) : dep (.list ds) ≤ 8 := by
  have := depL_le (k := 3) (fun d hd => (x.sm d hd).2)
  rw [dep_lst]
  omega
theorem BtAt.put {H : Hp} {s bt : Addr} {rs : List V} {ds : List PyData} (x : BtAt H s bt rs ds) {v : V} {d : PyData} (j : Nat) (hv : Is [bt, s] H d v) (h1 : sz d ≤ 10) (h2 : dep d ≤ 3) : BtAt (upd H bt (.lst (rs.set j v))) s bt (rs.set j v) (ds.set j d) := by
  have a : Adv [bt] H (upd H bt (.lst (rs.set j v))) := Adv.set (by simp)
  have a2 : Adv [bt, s] H (upd H bt (.lst (rs.set j v))) := a.more (by simp)
  exact ⟨x.str.adv a (by simpa using x.ne.symm) (by simp), x.ne, upd_same, (IsDs.setV hv j x.rd).adv a2, by rw [List.length_set]; exact x.len, mem_set (P := fun d => sz d ≤ 10 ∧ dep d ≤ 3) ⟨h1, h2⟩ j x.sm⟩
theorem BtAt.push {H : Hp} {s bt : Addr} {rs : List V} {ds : List PyData} (x : BtAt H s bt rs ds) {v : V} {d : PyData} (hv : Is [bt, s] H d v) (h1 : sz d ≤ 10) (h2 : dep d ≤ 3) (hl : ds.length ≤ 200) : BtAt (upd H bt (.lst (rs ++ [v]))) s bt (rs ++ [v]) (ds ++ [d]) := by
  have a : Adv [bt] H (upd H bt (.lst (rs ++ [v]))) := Adv.set (by simp)
  have a2 : Adv [bt, s] H (upd H bt (.lst (rs ++ [v]))) := a.more (by simp)
  refine ⟨x.str.adv a (by simpa using x.ne.symm) (by simp), x.ne, upd_same, (x.rd.app (.cons hv .nil)).adv a2, by rw [List.length_append, List.length_singleton]; omega, fun y hy => ?_⟩
  rcases List.mem_append.mp hy with h | h
  · exact x.sm y h
  · rw [List.mem_singleton.mp h]; exact ⟨h1, h2⟩
theorem ShAt.bend {H : Hp} {s sh bt : Addr} {rs : List V} {ds : List PyData} (x : ShAt H s sh rs ds) (n : H bt = none) : BtAt (upd H bt (.lst rs)) s bt rs ds := by
  have ns : s ≠ bt := fun z => x.str.here (by rw [z]; exact n)
  have a : Adv [] H (upd H bt (.lst rs)) := Adv.new n
  exact ⟨(x.str.fresh n).same a, ns.symm, upd_same, (x.rd.fresh n).adv (Adv.nil a), by have := x.len; omega, fun d hd => ⟨by have := (x.sm d hd).1; omega, by have := (x.sm d hd).2.1; omega⟩⟩
theorem BtAt.sheet {H0 H : Hp} {s sh bt : Addr} {rs rs' : List V} {ds ds' : List PyData} (x : BtAt H s bt rs' ds') (y : ShAt H0 s sh rs ds) (n : H0 bt = none) (a : Adv [bt, s] H0 H) : ShAt H s sh rs ds :=
  y.adv (a.drop n) (x.str.less (by simp))
end LL

set_option Elab.async false
set_option linter.all false
set_option maxRecDepth 100000
set_option maxHeartbeats 400000
/-! LNd: the nodes of a right sheet by themselves -/
namespace LL
open PySem PySem.Spec PyProof.Rows L2
variable [KW]
inductive Op3
  | and | or | imp
  deriving DecidableEq
def Op3.str : Op3 → Str
  | .and => "and"
  | .or => "or"
  | .imp => "if"
inductive Nd
  | no | letter (i : Nat) | bin (o : Op3) (j k : Nat) | box (j : Nat)
  deriving DecidableEq
def Nd.keys : Nd → List Key
  | .no => [.inr "no"]
  | .letter i => [.inr "letter", .inl i]
  | .bin o j k => [.inr o.str, .inl j, .inl k]
  | .box j => [.inr "box", .inl j]
def Nd.data (n : Nd) : PyData := .tuple (n.keys.map keyDt)
def Nd.ok (boxed : Bool) (at_ : Nat) : Nd → Bool
  | .no => true
  | .letter i => decide (i ≤ 7)
  | .bin _ j k => decide (j < at_) && decide (k < at_)
  | .box j => boxed && decide (j < at_)
theorem op_inj {o p : Op3} (h : o.str = p.str) : o = p := by
  cases o <;> cases p <;> first | rfl | exact absurd h (by decide)
theorem op_no (o : Op3) : o.str ≠ "no" ∧ o.str ≠ "letter" ∧ o.str ≠ "box" := by cases o <;> decide
theorem keys_inj {m n : Nd} (h : m.keys = n.keys) : m = n := by
  cases m <;> cases n <;> simp only [Nd.keys, List.cons.injEq, Sum.inr.injEq, Sum.inl.injEq, and_true, reduceCtorEq, and_false] at h
  case no.no => rfl
  case letter.letter i j =>
    have := h.2
    congr 1
    omega
  case letter.box i j => exact absurd h.1 (by decide)
  case bin.bin o j k o' j' k' =>
    obtain ⟨h1, h2, h3⟩ := h
    have e1 := op_inj h1
    have e2 : j = j' := by omega
    have e3 : k = k' := by omega
    subst e1; subst e2; subst e3; rfl
  case box.letter i j => exact absurd h.1 (by decide)
  case box.box i j =>
    have := h.2
    congr 1
    omega
theorem Nd.keysD (n : Nd) : LL.keysD n.data = n.keys := by
  cases n <;> rfl
theorem num_nat {lo hi : Int} {p : PyData} (h : isNum lo hi p = true) (h0 : 0 ≤ lo) : ∃ i : Nat, p = .int i ∧ lo ≤ i ∧ (i : Int) ≤ hi := by
  cases p with
  | int i =>
    simp only [isNum, Bool.and_eq_true, decide_eq_true_eq] at h
    exact ⟨i.toNat, by rw [Int.toNat_of_nonneg (by omega)], by omega, by omega⟩
  | _ => cases h
/-- what the check of a node says -/
theorem nodeB_nd {boxed : Bool} {at_ : Nat} {d : PyData} (h : nodeB boxed at_ d = true) : ∃ n : Nd, d = n.data ∧ n.ok boxed at_ = true := by
  unfold nodeB at h
  split at h
  case h_2 => cases h
  rename_i w ps
  split at h
  case isFalse => cases h
  rename_i hn
  have one : ∀ {lo hi : Int} {q : List PyData}, q.length = 1 → 0 ≤ lo → q.all (isNum lo hi) = true → ∃ i : Nat, q = [.int i] ∧ lo ≤ i ∧ (i : Int) ≤ hi := fun {lo hi q} hl h0 ha => by
    match q, hl with
    | [p], _ =>
      simp only [List.all_cons, List.all_nil, Bool.and_true] at ha
      obtain ⟨i, rfl, h1, h2⟩ := num_nat ha h0
      exact ⟨i, rfl, h1, h2⟩
  have two : ∀ {lo hi : Int} {q : List PyData}, q.length = 2 → 0 ≤ lo → q.all (isNum lo hi) = true → ∃ i k : Nat, q = [.int i, .int k] ∧ (i : Int) ≤ hi ∧ (k : Int) ≤ hi := fun {lo hi q} hl h0 ha => by
    match q, hl with
    | [p, r], _ =>
      simp only [List.all_cons, List.all_nil, Bool.and_true, Bool.and_eq_true] at ha
      obtain ⟨i, rfl, h1, h2⟩ := num_nat ha.1 h0
      obtain ⟨k, rfl, h3, h4⟩ := num_nat ha.2 h0
      exact ⟨i, k, rfl, h2, h4⟩
  unfold nItems at hn
  by_cases e1 : w = "letter"
  · subst e1
    rw [if_pos rfl] at hn h
    have hl : ps.length = 1 := by
      have := Option.some.inj hn
      omega
    obtain ⟨i, rfl, h1, h2⟩ := one hl (by omega) h
    exact ⟨.letter i, rfl, by simp only [Nd.ok, decide_eq_true_eq]; omega⟩
  rw [if_neg e1] at hn h
  by_cases e2 : w = "no"
  · subst e2
    rw [if_pos rfl] at hn
    have hl : ps = [] := by
      have := Option.some.inj hn
      exact List.length_eq_zero_iff.mp (by omega)
    subst hl
    exact ⟨.no, rfl, rfl⟩
  rw [if_neg e2] at hn
  have bin : ∀ o : Op3, w = o.str → ps.length = 2 → (if (w = "box" && !boxed) = true then false else ps.all (isNum 0 ((at_ : Int) - 1))) = true → ∃ n : Nd, PyData.tuple (.str w :: ps) = n.data ∧ n.ok boxed at_ = true := fun o ew hl hh => by
    have nb : ¬ (w = "box" && !boxed) = true := by
      intro z
      simp only [Bool.and_eq_true, decide_eq_true_eq] at z
      exact (op_no o).2.2 (by rw [← ew]; exact z.1)
    rw [if_neg nb] at hh
    obtain ⟨i, k, rfl, h2, h3⟩ := two hl (by omega) hh
    subst ew
    exact ⟨.bin o i k, rfl, by simp only [Nd.ok, Bool.and_eq_true, decide_eq_true_eq]; omega⟩
  by_cases e3 : w = "and"
  · subst e3
    rw [if_pos rfl] at hn
    exact bin .and rfl (by have := Option.some.inj hn; omega) h
  rw [if_neg e3] at hn
  by_cases e4 : w = "or"
  · subst e4
    rw [if_pos rfl] at hn
    exact bin .or rfl (by have := Option.some.inj hn; omega) h
  rw [if_neg e4] at hn
  by_cases e5 : w = "if"
  · subst e5
    rw [if_pos rfl] at hn
    exact bin .imp rfl (by have := Option.some.inj hn; omega) h
  rw [if_neg e5] at hn
  by_cases e6 : w = "box"
  · subst e6
    rw [if_pos rfl] at hn
    have hl : ps.length = 1 := by
      have := Option.some.inj hn
      omega
    cases boxed with
    | false => exact absurd h (by simp)
    | true =>
      have h' : ps.all (isNum 0 ((at_ : Int) - 1)) = true := by simpa using h
      obtain ⟨i, rfl, h1, h2⟩ := one hl (by omega) h'
      exact ⟨.box i, rfl, by simp only [Nd.ok, Bool.true_and, decide_eq_true_eq]; omega⟩
  rw [if_neg e6] at hn
  cases hn
/-- a right sheet -/
def okSheet (boxed : Bool) (ns : List Nd) : Prop := ns.Nodup ∧ ∀ (i : Nat) (n : Nd), ns[i]? = some n → n.ok boxed i = true
/-- the row of a node, a new one at the end if there is none -/
def rowF (ns : List Nd) (n : Nd) : Nat × List Nd := if n ∈ ns then (ns.idxOf n, ns) else (ns.length, ns ++ [n])
theorem rowF_lt (ns : List Nd) (n : Nd) : (rowF ns n).1 < (rowF ns n).2.length := by
  unfold rowF
  split
  · exact List.idxOf_lt_length_of_mem (by assumption)
  · simp
theorem rowF_pre (ns : List Nd) (n : Nd) : ns <+: (rowF ns n).2 := by
  unfold rowF
  split
  · exact List.prefix_refl _
  · exact List.prefix_append _ _
theorem rowF_at (ns : List Nd) (n : Nd) : (rowF ns n).2[(rowF ns n).1]? = some n := by
  unfold rowF
  split
  · rename_i h
    have hl := List.idxOf_lt_length_of_mem h
    rw [List.getElem?_eq_getElem hl, List.getElem_idxOf hl]
  · simp
theorem rowF_ok {boxed : Bool} {ns : List Nd} {n : Nd} (h : okSheet boxed ns) (hn : n.ok boxed ns.length = true) : okSheet boxed (rowF ns n).2 := by
  unfold rowF
  split
  · exact h
  · rename_i hm
    refine ⟨?_, fun i m hi => ?_⟩
    · rw [List.nodup_append]
      refine ⟨h.1, by simp, fun a ha b hb => ?_⟩
      rw [List.mem_singleton.mp hb]
      exact fun e => hm (e ▸ ha)
    · rcases Nat.lt_or_ge i ns.length with hl | hl
      · rw [List.getElem?_append_left hl] at hi
        exact h.2 i m hi
      · have e : i = ns.length := by
          have := (List.getElem?_eq_some_iff.mp hi).1
          simp at this
          omega
        subst e
        simp at hi
        subst hi
        exact hn
theorem Nd.ok_mono {boxed : Bool} {i j : Nat} {n : Nd} (h : n.ok boxed i = true) (hij : i ≤ j) : n.ok boxed j = true := by
  cases n <;> simp only [Nd.ok, Bool.and_eq_true, decide_eq_true_eq] at h ⊢ <;> first | exact h | omega | (exact ⟨h.1, by omega⟩)
/-- the row that denies row r -/
def denyF (ns : List Nd) (r : Nat) : Nat × List Nd := rowF (rowF ns .no).2 (.bin .imp r (rowF ns .no).1)
theorem memK_iff {k : List Key} {l : List (List Key)} : memK k l = true ↔ k ∈ l := by
  unfold memK
  rw [List.any_eq_true]
  constructor
  · rintro ⟨x, hx, e⟩
    rw [← of_decide_eq_true e]; exact hx
  · intro h
    exact ⟨k, h, by simp⟩
theorem wrongF_none {most : Int} {boxed : Bool} : ∀ {ds : List PyData} {pre : List Nd}, okSheet boxed pre → wrongF most boxed pre.length (pre.map Nd.keys) ds = none →
    ∃ ns : List Nd, ds = ns.map Nd.data ∧ okSheet boxed (pre ++ ns) ∧ (ns = [] ∨ ((pre.length + ns.length : Nat) : Int) ≤ most)
  | [], pre, hp, _ => ⟨[], rfl, by rw [List.append_nil]; exact hp, .inl rfl⟩
  | d :: ds, pre, hp, h => by
    unfold wrongF at h
    split at h
    case isFalse => cases h
    rename_i hm
    split at h
    case isFalse => cases h
    rename_i hb
    obtain ⟨n, rfl, hn⟩ := nodeB_nd hb
    split at h
    case isTrue => cases h
    rename_i hk
    rw [Nd.keysD] at hk h
    have hnm : n ∉ pre := fun z => hk (memK_iff.mpr (List.mem_map_of_mem z))
    have hp2 : okSheet boxed (pre ++ [n]) := by
      have := rowF_ok hp hn
      unfold rowF at this
      rw [if_neg hnm] at this
      exact this
    have h2 : wrongF most boxed (pre ++ [n]).length ((pre ++ [n]).map Nd.keys) ds = none := by
      rw [List.map_append, List.length_append]
      exact h
    obtain ⟨ns, e, h3, h4⟩ := wrongF_none hp2 h2
    refine ⟨n :: ns, by rw [List.map_cons, ← e], by rw [List.append_assoc] at h3; exact h3, .inr ?_⟩
    rcases h4 with h4 | h4
    · subst h4
      simp only [List.length_cons, List.length_nil]
      omega
    · rw [List.length_append] at h4
      simp only [List.length_cons, List.length_nil] at h4 ⊢
      omega
theorem wrongD_none {most : Int} {boxed : Bool} {d : PyData} (h0 : 0 ≤ most) (h : wrongD most boxed d = none) : ∃ ns : List Nd, d = .list (ns.map Nd.data) ∧ okSheet boxed ns ∧ (ns.length : Int) ≤ most := by
  cases d with
  | list ds =>
    obtain ⟨ns, e, h1, h2⟩ := wrongF_none (pre := []) ⟨List.nodup_nil, fun i n hi => by simp at hi⟩ h
    refine ⟨ns, by rw [e], h1, ?_⟩
    rcases h2 with h2 | h2
    · rw [h2]; exact h0
    · simpa using h2
  | _ => cases h
end LL

set_option Elab.async false
set_option linter.all false
set_option maxRecDepth 100000
set_option maxHeartbeats 400000
/-! LRead: the rows below rows; the three readings of rows, in plain words -/
namespace LL
open PySem PySem.Spec PyProof.Rows L2
variable [KW]
def Nd.parts : Nd → List Nat
  | .no => []
  | .letter _ => []
  | .bin _ j k => [j, k]
  | .box j => [j]
theorem parts_lt {boxed : Bool} {i : Nat} {n : Nd} (h : n.ok boxed i = true) : ∀ p ∈ n.parts, p < i := by
  cases n <;> simp [Nd.ok, Nd.parts] at h ⊢
  · exact h
  · exact h.2
def markP (m : Nat → Bool) (ps : List Nat) : Nat → Bool := fun x => m x || ps.contains x
def markDown (ns : List Nd) : Nat → (Nat → Bool) → Nat → Bool
  | 0, m => m
  | k + 1, m => markDown ns k (if m k = true then markP m ((ns[k]?.getD .no).parts) else m)
theorem markP_keep {m : Nat → Bool} {ps : List Nat} {x : Nat} (h : m x = true) : markP m ps x = true := by
  unfold markP; rw [h]; rfl
theorem markP_new {m : Nat → Bool} {ps : List Nat} {x : Nat} (h : x ∈ ps) : markP m ps x = true := by
  unfold markP
  rw [show ps.contains x = true from by simpa using h, Bool.or_true]
theorem markDown_keep (ns : List Nd) : ∀ (k : Nat) (m : Nat → Bool) (x : Nat), m x = true → markDown ns k m x = true
  | 0, m, x, h => h
  | k + 1, m, x, h => by
    unfold markDown
    refine markDown_keep ns k _ x ?_
    split
    · exact markP_keep h
    · exact h
/-- what stands at k and above isn't changed by the walk from k down -/
theorem markDown_above {boxed : Bool} {ns : List Nd} (ok : okSheet boxed ns) : ∀ (k : Nat) (m : Nat → Bool) (x : Nat), k ≤ ns.length → k ≤ x + 1 → markDown ns k m x = m x
  | 0, m, x, _, _ => rfl
  | k + 1, m, x, hk, hx => by
    unfold markDown
    rw [markDown_above ok k _ x (by omega) (by omega)]
    split
    · have hn : ns[k]? = some ns[k] := List.getElem?_eq_getElem (by omega)
      unfold markP
      rw [hn]
      have hnot : (ns[k] : Nd).parts.contains x = false := by
        refine Bool.eq_false_iff.mpr fun z => ?_
        have hm : x ∈ (ns[k] : Nd).parts := by simpa using z
        have := parts_lt (ok.2 k _ hn) x hm
        omega
      show (m x || (ns[k] : Nd).parts.contains x) = m x
      rw [hnot, Bool.or_false]
    · rfl
theorem markDown_parts {boxed : Bool} {ns : List Nd} (ok : okSheet boxed ns) : ∀ (k : Nat) (m : Nat → Bool) (i : Nat) (n : Nd), k ≤ ns.length → i < k → ns[i]? = some n → markDown ns k m i = true → ∀ p ∈ n.parts, markDown ns k m p = true
  | 0, m, i, n, _, hi, _, _ => by omega
  | k + 1, m, i, n, hk, hi, hn, h => by
    intro p hp
    unfold markDown at h ⊢
    rcases Nat.lt_or_ge i k with hlt | hge
    · exact markDown_parts ok k _ i n (by omega) hlt hn h p hp
    · have e : i = k := by omega
      subst e
      rw [markDown_above ok i _ i (by omega) (by omega)] at h
      have hmi : m i = true := by
        cases q : m i with
        | true => rfl
        | false =>
          rw [q, if_neg Bool.false_ne_true, q] at h
          exact h
      rw [if_pos hmi]
      refine markDown_keep ns i _ p ?_
      rw [hn]
      exact markP_new hp
def marked (ns : List Nd) (rows : List Nat) : Nat → Bool := markDown ns ns.length (markP (fun _ => false) rows)
def belowF (ns : List Nd) (rows : List Nat) : List Nat := (List.range ns.length).filter (marked ns rows)
theorem below_mem {ns : List Nd} {rows : List Nat} {i : Nat} : i ∈ belowF ns rows ↔ i < ns.length ∧ marked ns rows i = true := by
  unfold belowF
  rw [List.mem_filter, List.mem_range]
theorem below_parts {boxed : Bool} {ns : List Nd} {rows : List Nat} (ok : okSheet boxed ns) {i : Nat} {n : Nd} (h : i ∈ belowF ns rows) (hn : ns[i]? = some n) : ∀ p ∈ n.parts, p ∈ belowF ns rows ∧ p < i := fun p hp => by
  obtain ⟨h1, h2⟩ := below_mem.mp h
  have hl := parts_lt (ok.2 i n hn) p hp
  exact ⟨below_mem.mpr ⟨by omega, markDown_parts ok ns.length _ i n (Nat.le_refl _) h1 hn h2 p hp⟩, hl⟩
theorem below_row {ns : List Nd} {rows : List Nat} {r : Nat} (h : r ∈ rows) (hl : r < ns.length) : r ∈ belowF ns rows :=
  below_mem.mpr ⟨hl, markDown_keep ns _ _ _ (markP_new h)⟩
/-! ### the readings -/
inductive W3
  | neg | box | dou
  deriving DecidableEq
def W3.str : W3 → Str
  | .neg => "negative"
  | .box => "boxed"
  | .dou => "doubled"
/-- the node with its parts' new rows -/
def Nd.moved (new : Nat → Nat) : Nd → Nd
  | .bin o j k => .bin o (new j) (new k)
  | .box j => .box (new j)
  | n => n
def stepF (w : W3) (ns : List Nd) (at_ : Nat) (n : Nd) (new : Nat → Nat) : Nat × List Nd :=
  match w, n with
  | _, .no => (at_, ns)
  | .dou, .letter _ => (at_, ns)
  | .neg, .letter _ => denyF (denyF ns at_).2 (denyF ns at_).1
  | .box, .letter _ => rowF ns (.box at_)
  | .neg, .bin .or j k =>
    let a := denyF ns (new j)
    let b := denyF a.2 (new k)
    let c := rowF b.2 (.bin .and a.1 b.1)
    denyF c.2 c.1
  | .box, .bin .imp j k =>
    let a := rowF ns (.bin .imp (new j) (new k))
    rowF a.2 (.box a.1)
  | .dou, .box j =>
    let a := rowF ns (.box (new j))
    rowF a.2 (.bin .and (new j) a.1)
  | _, n => rowF ns (n.moved new)
/-- the rows l, one by one: the grown sheet and what each has become -/
def readF (w : W3) (old : List Nd) : List Nat → List Nd → (Nat → Nat) → List Nd × (Nat → Nat)
  | [], ns, new => (ns, new)
  | i :: l, ns, new =>
    let a := stepF w ns i (old[i]?.getD .no) new
    readF w old l a.2 (fun x => if x = i then a.1 else new x)
end LL

set_option Elab.async false
set_option linter.all false
set_option maxRecDepth 100000
set_option maxHeartbeats 400000
/-! LDx: dicts whose keys are tuples, tracked ones or ones of the written part -/
namespace LL
open PySem PySem.Spec PyProof.Rows L2
variable [KW]
abbrev Ent := List Key × Addr × V
abbrev entKV (p : Ent) : List Key × V := (p.1, p.2.2)
def EntR (p : Ent) (q : List Key × Addr × Value) : Prop := p.1 = q.1 ∧ p.2.1 = q.2.1 ∧ RelV p.2.2 q.2.2
def dxOk (T : Addr) (kas : List Ent) (h : Heap) : Prop := (T == sysModules) = false ∧ kas.length ≤ sizeLine ∧ ∃ xs : List (List Key × Addr × Value), Paired EntR kas xs ∧
  ∃ o es ep, h.get? T = some o ∧ o.ExactDict ∧ o.data = .dict es ep ∧ es.toList = xs.map (fun x => ⟨KW.hs x.1, .ref x.2.1, x.2.2⟩) ∧ (xs.map (·.1)).Nodup
def dxo (T : Addr) (kas : List Ent) : HO := .ext (dxOk T kas)
def putX (kas : List Ent) (k : List Key) (b : Addr) (v : V) : List Ent := if (kas.any fun p => decide (p.1 = k)) = true then kas.map (fun p => if p.1 = k then (p.1, p.2.1, v) else p) else kas ++ [(k, b, v)]
theorem dx_val {kas : List Ent} {xs : List (List Key × Addr × Value)} (r : Paired EntR kas xs) (k : List Key) : RelO (valV (kas.map entKV) k) ((atKey xs k).map (·.2)) := by
  induction r with
  | nil => exact True.intro
  | @cons p q ps qs h t ih =>
    obtain ⟨h1, _, h2⟩ := h
    rw [List.map_cons]
    by_cases e : p.1 = k
    · have e' : q.1 = k := h1.symm.trans e
      have b : atKey (q :: qs) k = some q.2 := by simp [atKey, List.find?_cons, e']
      rw [valV_pos (p := entKV p) e, b]; exact h2
    · have e' : ¬ q.1 = k := fun z => e (h1.trans z)
      have b : atKey (q :: qs) k = atKey qs k := by simp [atKey, List.find?_cons, e']
      rw [valV_neg (p := entKV p) e, b]; exact ih
theorem dx_any {kas : List Ent} {xs : List (List Key × Addr × Value)} (r : Paired EntR kas xs) (k : List Key) : (kas.any fun p => decide (p.1 = k)) = (atKey xs k).isSome := by
  induction r with
  | nil => rfl
  | @cons p q ps qs h t ih =>
    rw [List.any_cons, ih]
    by_cases e : p.1 = k
    · have e' : q.1 = k := h.1.symm.trans e
      have b : atKey (q :: qs) k = some q.2 := by simp [atKey, List.find?_cons, e']
      rw [b, decide_eq_true e]; rfl
    · have e' : ¬ q.1 = k := fun z => e (h.1.trans z)
      have b : atKey (q :: qs) k = atKey qs k := by simp [atKey, List.find?_cons, e']
      rw [b, decide_eq_false e, Bool.false_or]
theorem dx_put {kas : List Ent} {xs : List (List Key × Addr × Value)} (r : Paired EntR kas xs) (k : List Key) (b : Addr) {v : V} {u : Value} (rv : RelV v u) : Paired EntR (putX kas k b v) (storedH xs k b u) := by
  have repl : ∀ {l : List Ent} {m : List (List Key × Addr × Value)}, Paired EntR l m → Paired EntR (l.map fun p => if p.1 = k then (p.1, p.2.1, v) else p) (m.map (putAt k u)) := by
    intro l m q
    induction q with
    | nil => exact .nil
    | @cons p q ps qs h t ih =>
      rw [List.map_cons, List.map_cons]
      refine .cons ?_ ih
      obtain ⟨h1, h2, h3⟩ := h
      unfold putAt
      by_cases e : p.1 = k
      · rw [if_pos e, if_pos (h1.symm.trans e)]; exact ⟨h1, h2, rv⟩
      · rw [if_neg e, if_neg (fun z => e (h1.trans z))]; exact ⟨h1, h2, h3⟩
  unfold putX storedH
  rw [dx_any r k]
  by_cases q : (atKey xs k).isSome = true
  · rw [if_pos q, if_pos q]; exact repl r
  · rw [if_neg q, if_neg q]; exact Paired.snoc r ⟨rfl, rfl, rv⟩
/-- the keys' tuples -/
def KeysAt (K : PySem.W.Frag) (H : Hp) (kas : List Ent) : Prop := ∀ p ∈ kas, SqT K H p.2.1 (p.1.map kV)
/-- what a dict holds at a key -/
def DGX (K : PySem.W.Frag) (H : Hp) (a : Addr) (y : V) (r : Option V) : Prop :=
  ∃ kas k b, H a = some (dxo a kas) ∧ KeysAt K H kas ∧ y = .ref b ∧ SqT K H b (k.map kV) ∧ r = valV (kas.map entKV) k
def DPX (K : PySem.W.Frag) (H : Hp) (a : Addr) (y v : V) (H' : Hp) : Prop :=
  ∃ kas k b, H a = some (dxo a kas) ∧ KeysAt K H kas ∧ y = .ref b ∧ SqT K H b (k.map kV) ∧ kas.length < sizeLine ∧ H' = upd H a (dxo a (putX kas k b v))
section
variable {X : Cx} {w : World} {pins : List (Addr × Obj)} {σ : L2.St} {H : Hp} {s : Shared} {a b : Addr} {y v : V} {u r : Value} {o : Option V} {A : Around} {E : Value → Shared → Prop} {ks : List Key} {kas : List Ent}
theorem key_sq (I : Inv X pins σ H s) (h : SqT X.K H b (ks.map kV)) : (tupleKind (mixKind X.prog X.w)).is s.heap ks b := by
  obtain ⟨its, r, ⟨o, h1, h2, n, h3⟩, _⟩ := I.tuple h
  exact ⟨o, its.toArray, n, h1, h2, h3, by simpa using items_are r⟩
theorem dx_of (W : KWOk X.K X.w) (I : Inv X pins σ H s) (e : H a = some (dxo a kas)) (hk : KeysAt X.K H kas) : (a == sysModules) = false ∧ kas.length ≤ sizeLine ∧
    ∃ xs, Paired EntR kas xs ∧ s.heap.DictOfH (tupleKind (mixKind X.prog X.w)) a xs := by
  obtain ⟨⟨y, z, xs, r, o, es, ep, h1, h2, h3, h4, h5⟩, _, _⟩ := (show ObjOk X.prog X.w H s.heap a (dxo a kas) from I.hok a _ e)
  refine ⟨y, z, xs, r, o, es, ep, h1, h2, h3, ?_, fun x hx => ?_, h5⟩
  · rw [h4]
    refine List.map_congr_left fun x _ => ?_
    unfold entryOfKey
    rw [W.hs X.prog x.1]
  · have all : ∀ {l : List Ent} {m : List (List Key × Addr × Value)}, Paired EntR l m → (∀ p ∈ l, SqT X.K H p.2.1 (p.1.map kV)) → ∀ x ∈ m, (tupleKind (mixKind X.prog X.w)).is s.heap x.1 x.2.1 := by
      intro l m q
      induction q with
      | nil => intro _ x hx; exact nomatch hx
      | @cons p q ps qs hq t ih =>
        intro hp x hx
        rcases List.mem_cons.mp hx with e | hx
        · subst e
          rw [← hq.1, ← hq.2.1]
          exact key_sq I (hp p List.mem_cons_self)
        · exact ih (fun p hp' => hp p (List.mem_cons_of_mem _ hp')) x hx
    exact all r hk x hx
theorem dx_new {h : Heap} {kas : List Ent} {xs : List (List Key × Addr × Value)} {P : Program} {w : World} {H : Hp} (W : ∀ (ks : List Key), KW.hs ks = (tupleKind (mixKind P w)).hash ks) (y : (a == sysModules) = false) (z : kas.length ≤ sizeLine) (r : Paired EntR kas xs) (d : h.DictOfH (tupleKind (mixKind P w)) a xs) :
    ObjOk P w H h a (dxo a kas) := by
  obtain ⟨o, es, ep, h1, h2, h3, h4, _, h5⟩ := d
  refine ⟨⟨y, z, xs, r, o, es, ep, h1, h2, h3, ?_, h5⟩, ⟨o, h1⟩, fun k1 k2 p keep => ?_⟩
  · rw [h4]
    refine List.map_congr_left fun x _ => ?_
    unfold entryOfKey
    rw [W x.1]
  · obtain ⟨y, z, xs, r, o, es, ep, h1, h2⟩ := p
    exact ⟨y, z, xs, r, o, es, ep, keep _ h1, h2⟩
theorem dx_getItem {Q : Value → Shared → Prop} (W : KWOk X.K X.w) (hu : A.units + 1 < cLine) (I : Inv X pins σ H s) (g : DGX X.K H a y (some v)) (ry : RelV y u) (h : ∀ w' s', Inv X pins σ H s' → RelV v w' → Q w' s') :
    wpAny (model X.prog X.w) A (getItem (.ref a) u) Q E s := by
  obtain ⟨kas, k, b, e, hk, ey, eb, l⟩ := g
  subst ey
  cases (show u = Value.ref b from ry)
  obtain ⟨hd, z, xs, rel, dd⟩ := dx_of W I e hk
  obtain ⟨w', hw, rw'⟩ := RelO.some_of (v := v) (o := (atKey xs k).map (·.2)) (by rw [l]; exact dx_val rel k)
  obtain ⟨p, hp, hp2⟩ := Option.map_eq_some_iff.mp hw
  refine wpAny_getItem_heap (tupleKind_room_in1 hu) (key_sq I eb) dd hp ?_
  rw [hp2]
  exact h w' _ (I.tok _) rw'
theorem dx_in {Q : Value → Shared → Prop} (W : KWOk X.K X.w) (hu : A.units + 1 < cLine) (I : Inv X pins σ H s) (g : DGX X.K H a y o) (ry : RelV y u) (h : ∀ s', Inv X pins σ H s' → Q (.bool o.isSome) s') :
    wpAny (model X.prog X.w) A (compareOp .In u (.ref a)) Q E s := by
  obtain ⟨kas, k, b, e, hk, ey, eb, l⟩ := g
  subst ey
  cases (show u = Value.ref b from ry)
  obtain ⟨hd, z, xs, rel, dd⟩ := dx_of W I e hk
  refine wpAny_in_heap (tupleKind_room_in1 hu) (key_sq I eb) hd dd ?_
  have q := (dx_val rel k).isSome_eq
  rw [Option.isSome_map] at q
  rw [← q, ← l]
  exact h _ (I.tok _)
theorem dx_notIn {Q : Value → Shared → Prop} (W : KWOk X.K X.w) (hu : A.units + 1 < cLine) (I : Inv X pins σ H s) (g : DGX X.K H a y o) (ry : RelV y u) (h : ∀ s', Inv X pins σ H s' → Q (.bool (!o.isSome)) s') :
    wpAny (model X.prog X.w) A (compareOp .NotIn u (.ref a)) Q E s := by
  obtain ⟨kas, k, b, e, hk, ey, eb, l⟩ := g
  subst ey
  cases (show u = Value.ref b from ry)
  obtain ⟨hd, z, xs, rel, dd⟩ := dx_of W I e hk
  refine wpAny_notIn_heap (tupleKind_room_in1 hu) (key_sq I eb) hd dd ?_
  have q := (dx_val rel k).isSome_eq
  rw [Option.isSome_map] at q
  rw [← q, ← l]
  exact h _ (I.tok _)
theorem putX_len (kas : List Ent) (k : List Key) (b : Addr) (v : V) : (putX kas k b v).length ≤ kas.length + 1 := by
  unfold putX
  split <;> simp
theorem dx_setItem {H' : Hp} {Q : Unit → Shared → Prop} (W : KWOk X.K X.w) (hu : A.units + 1 < cLine) (I : Inv X pins σ H s) (g : DPX X.K H a y v H') (ry : RelV y u) (rv : RelV v r) (h : ∀ s', Inv X pins σ H' s' → Q () s') :
    wpAny (model X.prog X.w) A (setItem (.ref a) u r) Q E s := by
  obtain ⟨kas, k, b, e, hk, ey, eb, l, eH⟩ := g
  subst ey eH
  cases (show u = Value.ref b from ry)
  obtain ⟨hd, z, xs, rel, dd⟩ := dx_of W I e hk
  have hz : xs.length ≤ sizeLine := by rw [← Paired.length rel]; exact z
  have hl : (putX kas k b v).length ≤ sizeLine := by have := putX_len kas k b v; omega
  refine wpAny_setItem_heap (hsz := hz) (tupleKind_room_in1 hu) (key_sq I eb) dd fun h' dd' hs => h _ ?_
  have he : ∃ q, h'.get? a = some q := let ⟨q, _, _, hq, _⟩ := dd'; ⟨q, hq⟩
  exact d_write I (by rw [e]; exact True.intro) hs he (dx_new (fun ks => W.hs X.prog ks) hd hl (dx_put rel k b rv) dd')
end
def tDGetX (K : PySem.W.Frag) (td ty : TE) : TE := fun σ H Q => td σ H fun x H1 => ty σ H1 fun y H2 => ∃ a v, x = .ref a ∧ DGX K H2 a y (some v) ∧ Q v H2
def tDInX (K : PySem.W.Frag) (ty td : TE) : TE := fun σ H Q => ty σ H fun y H1 => td σ H1 fun x H2 => ∃ a o, x = .ref a ∧ DGX K H2 a y o ∧ Q (.bl o.isSome) H2
def tDNotInX (K : PySem.W.Frag) (ty td : TE) : TE := fun σ H Q => ty σ H fun y H1 => td σ H1 fun x H2 => ∃ a o, x = .ref a ∧ DGX K H2 a y o ∧ Q (.bl (!o.isSome)) H2
def sDPutX (K : PySem.W.Frag) (td ty tv : TE) : TS := fun D σ H => tv σ H fun v H1 => td σ H1 fun x H2 => ty σ H2 fun y H3 => ∃ a H4, x = .ref a ∧ DPX K H3 a y v H4 ∧ D.nx σ H4
def tDNewX : TE := fun _ H Q => ∀ p, H p = none → Q (.ref p) (upd H p (dxo p []))
section
variable {X : Cx} {o i e value : Expr} {pos pos' tpos : Pos} {td ty tv : TE}
theorem dx_typeIs {pins : List (Addr × Obj)} {σ : L2.St} {H : Hp} {s : Shared} {a : Addr} {y : V} {ov : Option V} (I : Inv X pins σ H s) (g : DGX X.K H a y ov) : s.TypeIs (.ref a) "dict" := by
  obtain ⟨kas, k, b, e, _⟩ := g
  obtain ⟨⟨_, _, xs, _, ob, es, ep, h1, h2, _⟩, _⟩ := (show ObjOk X.prog X.w H s.heap a (dxo a kas) from I.hok a _ e)
  exact ⟨ob, h1, h2.1⟩
theorem pe_dgetX (W : KWOk X.K X.w) (hu : X.A.units + 1 < cLine) (ho : PE X o td) (hi : PE X i ty) (hs : NoSl i) : PE X (.Subscript o i pos) (tDGetX X.K td ty) := by
  refine ⟨fun pins s σ H Q I h => ?_⟩
  refine subD_of PySem.F.slot_dict_getitem.lookup hs (thn (ho.run pins s σ H _ I h) fun u s1 ⟨x, H1, I1, rx, q1⟩ => thn (hi.run pins s1 σ H1 _ I1 q1) fun iv s2 ⟨y, H2, I2, ry, a, v, ex, g, q2⟩ => ?_)
  subst ex
  obtain rfl : u = Value.ref a := rx
  exact ⟨dx_typeIs I2 g, dx_getItem W hu I2 g ry fun w' s3 I3 rw' => ⟨v, H2, I3, rw', q2⟩⟩
theorem pc_dinX (W : KWOk X.K X.w) (hu : X.A.units + 1 < cLine) (hi : PE X i ty) (ho : PE X o td) : PC X .In i o (tDInX X.K ty td) := by
  refine ⟨fun pins s σ H Q I h => ?_⟩
  refine thn (hi.run pins s σ H _ I h) fun iv s1 ⟨y, H1, I1, ry, q1⟩ => thn (ho.run pins s1 σ H1 _ I1 q1) fun u s2 ⟨x, H2, I2, rx, a, ov, ex, g, q2⟩ => ?_
  subst ex
  obtain rfl : u = Value.ref a := rx
  exact dx_in W hu I2 g ry fun s3 I3 => ⟨.bl ov.isSome, H2, I3, rfl, q2⟩
theorem pc_dnotinX (W : KWOk X.K X.w) (hu : X.A.units + 1 < cLine) (hi : PE X i ty) (ho : PE X o td) : PC X .NotIn i o (tDNotInX X.K ty td) := by
  refine ⟨fun pins s σ H Q I h => ?_⟩
  refine thn (hi.run pins s σ H _ I h) fun iv s1 ⟨y, H1, I1, ry, q1⟩ => thn (ho.run pins s1 σ H1 _ I1 q1) fun u s2 ⟨x, H2, I2, rx, a, ov, ex, g, q2⟩ => ?_
  subst ex
  obtain rfl : u = Value.ref a := rx
  exact dx_notIn W hu I2 g ry fun s3 I3 => ⟨.bl (!ov.isSome), H2, I3, rfl, q2⟩
theorem ps_dputX (W : KWOk X.K X.w) (hu : X.A.units + 1 < cLine) (ho : PE X o td) (hi : PE X i ty) (hv : PE X value tv) (hs : swapsWith value (some (.Subscript o i pos')) pos.line X.env = pure false) :
    PS X (.Assign [.Subscript o i pos'] value pos) (sDPutX X.K td ty tv) := by
  refine ⟨fun pins s σ H D I h => ?_⟩
  refine wpAny_Assign_Subscript (thn (hv.run pins s σ H _ I h) fun r s1 ⟨v, H1, I1, rv, q1⟩ => thn (ho.run pins s1 σ H1 _ I1 q1) fun u s2 ⟨x, H2, I2, rx, q2⟩ => thn (hi.run pins s2 σ H2 _ I2 q2) fun iv s3 ⟨y, H3, I3, ry, a, H4, ex, g, q3⟩ => ?_) hs
  subst ex
  obtain rfl : u = Value.ref a := rx
  exact dx_setItem W hu I3 g ry rv fun s4 I4 => ⟨σ, H4, I4, q3⟩
theorem pe_dnewX (W : KWOk X.K X.w) : PE X (.Dict [] [] pos) tDNewX := ⟨fun pins s σ H Q I h =>
  wpAny_Dict_empty ⟨.ref s.heap.objs.size, _, I.laid (a := s.heap.objs.size) (o := dxo s.heap.objs.size []) (t' := s.toks) (fun _ _ q => Heap.get?_push_of_some _ q) (Nat.le_refl _)
    (dx_new (xs := []) (fun ks => W.hs X.prog ks) (beq_eq_false_iff_ne.mpr (Ne.symm (Nat.ne_of_lt I.big))) (Nat.zero_le _) .nil ⟨_, #[], 0, Heap.get?_push_size _ rfl, ⟨rfl, rfl, rfl⟩, rfl, rfl, (fun x hx => nomatch hx), List.nodup_nil⟩), rfl, h _ (I.hok.fresh (Nat.le_refl _))⟩⟩
end
end LL

set_option Elab.async false
set_option linter.all false
set_option maxRecDepth 100000
set_option maxHeartbeats 400000
/-! LBkN: a list of nodes and the table of their rows, in the heap -/
namespace LL
open PySem PySem.Spec PyProof.Rows L2
variable [KW]
def tabG : Nat → List Nd → List (List Key × V)
  | _, [] => []
  | k, n :: ns => (n.keys, .int (k : Nat)) :: tabG (k + 1) ns
theorem tab_app : ∀ (k : Nat) (ns ms : List Nd), tabG k (ns ++ ms) = tabG k ns ++ tabG (k + ns.length) ms
  | k, [], ms => by rw [List.nil_append, List.length_nil, Nat.add_zero]; rfl
  | k, n :: ns, ms => by
    rw [List.cons_append, tabG, tab_app (k + 1) ns ms, tabG, List.cons_append, List.length_cons]
    rw [show k + 1 + ns.length = k + (ns.length + 1) from by omega]
theorem tab_len : ∀ (k : Nat) (ns : List Nd), (tabG k ns).length = ns.length
  | _, [] => rfl
  | k, n :: ns => by rw [tabG, List.length_cons, tab_len (k + 1) ns, List.length_cons]
theorem tab_val : ∀ (k : Nat) (ns : List Nd) (n : Nd), valV (tabG k ns) n.keys = if n ∈ ns then some (.int ((k + ns.idxOf n : Nat))) else none
  | k, [], n => by simp [tabG, valV]
  | k, m :: ns, n => by
    unfold tabG
    by_cases e : m = n
    · subst e
      unfold valV
      rw [List.find?_cons]
      simp [List.idxOf_cons]
    · have hk : ¬ m.keys = n.keys := fun z => e (keys_inj z)
      have e2 : (m == n) = false := by simpa using e
      have ih := tab_val (k + 1) ns n
      unfold valV at ih ⊢
      rw [List.find?_cons, decide_eq_false hk]
      show Option.map _ (List.find? _ (tabG (k + 1) ns)) = _
      rw [ih]
      have hm : (n ∈ m :: ns) ↔ n ∈ ns := by
        rw [List.mem_cons]
        exact ⟨fun z => z.resolve_left (fun y => e y.symm), .inr⟩
      by_cases h : n ∈ ns
      · rw [if_pos h, if_pos (hm.mpr h), List.idxOf_cons, e2]
        show some (V.int ((k + 1 + ns.idxOf n : Nat))) = some (V.int ((k + (ns.idxOf n + 1) : Nat)))
        rw [show k + 1 + ns.idxOf n = k + (ns.idxOf n + 1) from by omega]
      · rw [if_neg h, if_neg (fun z => h (hm.mp z))]
/-- a dict at T that holds kvs, its keys' tuples stand -/
structure Tab (M : List Addr) (H : Hp) (T : Addr) (kvs : List (List Key × V)) : Prop where
  ex : ∃ kas : List Ent, H T = some (dxo T kas) ∧ kas.map entKV = kvs ∧ ∀ p ∈ kas, Tp M H p.2.1 (p.1.map kV)
section
variable {M N : List Addr} {H H' : Hp} {T p b : Addr} {kvs : List (List Key × V)} {K : PySem.W.Frag} {w : World} {k : List Key} {v : V}
theorem Tab.adv (x : Tab M H T kvs) (a : Adv N H H') (hT : T ∉ N) (hn : ∀ b ∈ N, b ∈ M) : Tab M H' T kvs := by
  obtain ⟨kas, h1, h2, h3⟩ := x.ex
  exact ⟨⟨kas, a _ _ hT h1, h2, fun q hq => (h3 q hq).adv (a.more hn)⟩⟩
theorem Tab.same (x : Tab M H T kvs) (a : Adv [] H H') : Tab M H' T kvs := x.adv a (by simp) (by simp)
theorem Tab.fresh (x : Tab M H T kvs) (h : H p = none) : Tab (p :: M) H T kvs := by
  obtain ⟨kas, h1, h2, h3⟩ := x.ex
  exact ⟨⟨kas, h1, h2, fun q hq => (h3 q hq).fresh h⟩⟩
theorem Tab.less (x : Tab M H T kvs) (h : ∀ b ∈ N, b ∈ M) : Tab N H T kvs := by
  obtain ⟨kas, h1, h2, h3⟩ := x.ex
  exact ⟨⟨kas, h1, h2, fun q hq => (h3 q hq).less h⟩⟩
theorem Tab.new (h : H T = some (dxo T [])) : Tab M H T [] := ⟨⟨[], h, rfl, fun q hq => nomatch hq⟩⟩
theorem Tab.here (x : Tab M H T kvs) : H T ≠ none := by
  obtain ⟨kas, h1, _⟩ := x.ex
  rw [h1]; simp
theorem Tab.get (W : KWOk K w) (x : Tab M H T kvs) (hb : Tp N H b (k.map kV)) : DGX K H T (.ref b) (valV kvs k) := by
  obtain ⟨kas, h1, h2, h3⟩ := x.ex
  exact ⟨kas, k, b, h1, fun q hq => (h3 q hq).sq W, rfl, hb.sq W, by rw [h2]⟩
theorem putX_map (kas : List Ent) (k : List Key) (b : Addr) (v : V) : (putX kas k b v).map entKV = putK (kas.map entKV) k v := by
  have e : ((kas.map entKV).any fun kv => decide (kv.1 = k)) = kas.any fun p => decide (p.1 = k) := by rw [List.any_map]; rfl
  unfold putX putK
  rw [e]
  split
  · rw [List.map_map, List.map_map]
    refine List.map_congr_left fun q _ => ?_
    show entKV (if q.1 = k then _ else _) = (if (entKV q).1 = k then _ else _)
    by_cases z : q.1 = k
    · rw [if_pos z, if_pos z]
    · rw [if_neg z, if_neg z]
  · rw [List.map_append]; rfl
theorem Tab.put (W : KWOk K w) (x : Tab M H T kvs) (hb : Tp M H b (k.map kV)) (hl : kvs.length < sizeLine) (v : V) :
    ∃ kas' : List Ent, DPX K H T (.ref b) v (upd H T (dxo T kas')) ∧ kas'.map entKV = putK kvs k v ∧ ∀ q ∈ kas', Tp M H q.2.1 (q.1.map kV) := by
  obtain ⟨kas, h1, h2, h3⟩ := x.ex
  refine ⟨putX kas k b v, ⟨kas, k, b, h1, fun q hq => (h3 q hq).sq W, rfl, hb.sq W, by rw [← h2, List.length_map] at hl; exact hl, rfl⟩, by rw [putX_map, h2], fun q hq => ?_⟩
  unfold putX at hq
  split at hq
  · obtain ⟨p', hp', e⟩ := List.mem_map.mp hq
    by_cases z : p'.1 = k
    · rw [if_pos z] at e
      subst e
      exact h3 p' hp'
    · rw [if_neg z] at e
      subst e
      exact h3 p' hp'
  · rcases List.mem_append.mp hq with hq | hq
    · exact h3 q hq
    · rw [List.mem_singleton.mp hq]
      exact hb
/-- the table behind a store: told by its heap -/
theorem Tab.putH (W : KWOk K w) (x : Tab M H T kvs) (mT : T ∈ M) (hb : Tp M H b (k.map kV)) (hl : kvs.length < sizeLine) (v : V) :
    ∃ o : HO, DPX K H T (.ref b) v (upd H T o) ∧ Tab M (upd H T o) T (putK kvs k v) := by
  obtain ⟨kas', g, e, h⟩ := x.put W hb hl v
  exact ⟨_, g, ⟨⟨kas', upd_same, e, fun q hq => (h q hq).adv (Adv.set mT)⟩⟩⟩
end
/-- the list b0 of the nodes ns, the table b1 of their rows -/
structure BkN (M : List Addr) (H : Hp) (b0 b1 : Addr) (ns : List Nd) : Prop where
  rows : ∃ rs, H b0 = some (.lst rs) ∧ IsDs M H (ns.map Nd.data) rs
  tab : Tab M H b1 (tabG 0 ns)
  m0 : b0 ∈ M
  m1 : b1 ∈ M
  ne : b0 ≠ b1
  al : ∀ b ∈ M, H b ≠ none
theorem BkN.adv {M N : List Addr} {H H' : Hp} {b0 b1 : Addr} {ns : List Nd} (x : BkN M H b0 b1 ns) (a : Adv N H H') (h0 : b0 ∉ N) (h1 : b1 ∉ N) (hn : ∀ b ∈ N, b ∈ M) (hal : ∀ b ∈ N, H' b ≠ none) : BkN M H' b0 b1 ns := by
  obtain ⟨⟨rs, e, r⟩, t, m0, m1, ne, al⟩ := x
  exact ⟨⟨rs, a _ _ h0 e, r.adv (a.more hn)⟩, t.adv a h1 hn, m0, m1, ne, alloc_adv al a hal⟩
theorem BkN.same {M : List Addr} {H H' : Hp} {b0 b1 : Addr} {ns : List Nd} (x : BkN M H b0 b1 ns) (a : Adv [] H H') : BkN M H' b0 b1 ns := x.adv a (by simp) (by simp) (by simp) (by simp)
theorem BkN.fresh {M : List Addr} {H : Hp} {b0 b1 p : Addr} {ns : List Nd} (x : BkN M H b0 b1 ns) (h : H p = none) {o : HO} : BkN (p :: M) (upd H p o) b0 b1 ns := by
  have y := x.same (Adv.new (o := o) h)
  obtain ⟨⟨rs, e, r⟩, t, m0, m1, ne, al⟩ := x
  obtain ⟨_, _, _, _, _, al'⟩ := y
  have a : Adv [] H (upd H p o) := Adv.new h
  exact ⟨⟨rs, a.same _ _ e, (r.fresh h).adv (a.more (by simp))⟩, (t.fresh h).same a, by simp [m0], by simp [m1], ne, fun b hb => by
    rcases List.mem_cons.mp hb with z | hb
    · rw [z, upd_same]; simp
    · exact al' b hb⟩
theorem BkN.less {M N : List Addr} {H : Hp} {b0 b1 : Addr} {ns : List Nd} (x : BkN M H b0 b1 ns) (h : ∀ b ∈ N, b ∈ M) (m0 : b0 ∈ N) (m1 : b1 ∈ N) : BkN N H b0 b1 ns := by
  obtain ⟨⟨rs, e, r⟩, t, _, _, ne, al⟩ := x
  exact ⟨⟨rs, e, r.less h⟩, t.less h, m0, m1, ne, fun b hb => al b (h b hb)⟩
theorem ks_of {M : List Addr} {H : Hp} : ∀ (ks : List Key) (ws : List V), IsDs M H (ks.map keyDt) ws → ws = ks.map kV := by
  intro ks
  induction ks with
  | nil => intro ws y; unfold IsDs at y; exact y
  | cons c ks ih =>
    intro ws y
    rw [List.map_cons] at y
    unfold IsDs at y
    obtain ⟨u, r, rfl, h1, h2⟩ := y
    rw [ih r h2]
    cases c with
    | inl i => rw [h1.intE]; rfl
    | inr s => rw [h1.strE]; rfl
theorem nd_is {M : List Addr} {H : Hp} {n : Nd} {v : V} (x : Is M H n.data v) : ∃ a, v = .ref a ∧ Tp M H a (n.keys.map kV) := by
  obtain ⟨a, vs, rfl, ha, hs⟩ := x.tupE
  refine ⟨a, rfl, ?_⟩
  rw [← ks_of _ _ hs]
  exact ha
theorem nd_tp {M : List Addr} {H : Hp} {n : Nd} {a : Addr} (h : Tp M H a (n.keys.map kV)) : Is M H n.data (.ref a) := Is.tp h (ks_data _)
theorem tab_mem (k : Nat) (ns : List Nd) (n : Nd) : memK n.keys ((tabG k ns).map (·.1)) = decide (n ∈ ns) := by
  rw [← val_mem, tab_val]
  by_cases h : n ∈ ns
  · rw [if_pos h, decide_eq_true h]; rfl
  · rw [if_neg h, decide_eq_false h]; rfl
/-- a node is added at the end -/
theorem BkN.push {K : PySem.W.Frag} {w : World} (W : KWOk K w) {M : List Addr} {H : Hp} {b0 b1 a : Addr} {ns : List Nd} {n : Nd} {rs : List V} (x : BkN M H b0 b1 ns) (h0 : H b0 = some (.lst rs)) (ha : Tp M H a (n.keys.map kV)) (hm : n ∉ ns) (hl : ns.length < sizeLine) :
    ∃ o : HO, DPX K H b1 (.ref a) (.int (rs.length : Nat)) (upd H b1 o) ∧ BkN M (upd (upd H b1 o) b0 (.lst (rs ++ [.ref a]))) b0 b1 (ns ++ [n]) := by
  obtain ⟨⟨rs', e, r⟩, t, m0, m1, ne, al⟩ := x
  rw [h0] at e
  cases e
  have hrl := r.len
  rw [List.length_map] at hrl
  obtain ⟨o, g, t2⟩ := t.putH W m1 ha (by rw [tab_len]; exact hl) (.int (rs.length : Nat))
  refine ⟨o, g, ?_⟩
  have a1 : Adv [b0, b1] H (upd H b1 o) := Adv.set (by simp)
  have a2 : Adv [b0] (upd H b1 o) (upd (upd H b1 o) b0 (.lst (rs ++ [.ref a]))) := Adv.set (by simp)
  have aa : Adv [b0, b1] H (upd (upd H b1 o) b0 (.lst (rs ++ [.ref a]))) := a1.trans (a2.more (by simp))
  have mM : ∀ b ∈ [b0, b1], b ∈ M := by simp [m0, m1]
  refine ⟨⟨rs ++ [.ref a], upd_same, ?_⟩, ?_, m0, m1, ne, alloc_adv al aa fun b hb => ?_⟩
  · rw [List.map_append]
    exact (r.adv (aa.more mM)).app (IsDs.one (nd_tp (ha.adv (aa.more mM))))
  · rw [put_new _ _ _ (by rw [tab_mem]; exact decide_eq_false hm)] at t2
    have := t2.adv a2 (by simpa using ne.symm) (by simp [m0])
    rw [tab_app, Nat.zero_add, ← hrl]
    exact this
  · rcases List.mem_cons.mp hb with e | hb
    · rw [e, upd_same]; simp
    · rw [List.mem_singleton.mp hb, upd_ne ne.symm, upd_same]; simp
end LL

set_option Elab.async false
set_option linter.all false
set_option maxRecDepth 100000
set_option maxHeartbeats 400000
/-! LFilt: a filtered comprehension over a range; lists of marks -/
namespace LL
open PySem PySem.Spec PyProof.Rows L2
variable [KW]
def mbV (m : Nat → Bool) (n : Nat) : List V := (List.range n).map fun i => V.bl (m i)
theorem mb_len (m : Nat → Bool) (n : Nat) : (mbV m n).length = n := by unfold mbV; rw [List.length_map, List.length_range]
theorem mb_at {m : Nat → Bool} {n i : Nat} (h : i < n) : (mbV m n)[i]? = some (.bl (m i)) := by
  unfold mbV
  rw [List.getElem?_map, List.getElem?_range h]
  rfl
theorem mb_zero (n : Nat) : (List.replicate n [V.bl false]).flatten = mbV (fun _ => false) n := by
  unfold mbV
  induction n with
  | zero => rfl
  | succ n ih =>
    rw [List.replicate_succ', List.flatten_append, ih, List.range_succ, List.map_append]
    rfl
theorem mb_set {m : Nat → Bool} {n i : Nat} : (mbV m n).set i (.bl true) = mbV (markP m [i]) n := by
  apply List.ext_getElem?
  intro j
  rw [List.getElem?_set]
  by_cases hj : j < n
  · rw [mb_at hj, mb_at hj, mb_len]
    by_cases e : i = j
    · subst e
      rw [if_pos rfl, if_pos hj, markP_new (by simp)]
    · rw [if_neg e]
      have : markP m [i] j = m j := by
        unfold markP
        rw [show [i].contains j = false from by simp; exact fun z => e z.symm, Bool.or_false]
      rw [this]
  · have l1 : (mbV m n)[j]? = none := List.getElem?_eq_none (by rw [mb_len]; omega)
    have l2 : (mbV (markP m [i]) n)[j]? = none := List.getElem?_eq_none (by rw [mb_len]; omega)
    rw [l1, l2, mb_len]
    split
    · split
      · omega
      · rfl
    · rfl
theorem markP_snoc (m : Nat → Bool) (ps : List Nat) (p : Nat) : markP (markP m ps) [p] = markP m (ps ++ [p]) := by
  funext x
  unfold markP
  rw [List.contains_append, Bool.or_assoc]
theorem markP_nil (m : Nat → Bool) : markP m [] = m := by
  funext x
  unfold markP
  simp
section
variable {g : TG} {te : TE} {vs : List Nat} {σ : L2.St} {H1 : Hp} {D : Addr} {Qd : Hp → Prop}
theorem lc_filtR {n : Nat} {tt : TT} (ys : Nat → V) (c : Nat → Bool) (hD : H1 D = none) (hz : n ≤ 1000000)
    (hs : ∀ (i : Nat) (H : Hp) (acc : List V) (R : V → Hp → Prop) (R0 : Hp → Prop), i < n → Adv [] H1 H → H D = some (.lst acc) → (c i = true → ∀ H4, H4 D = some (.lst acc) → Adv [] H1 H4 → R (ys i) H4) →
      (c i = false → ∀ H4, H4 D = some (.lst acc) → Adv [] H1 H4 → R0 H4) → g (.int (0 + (i : Nat))) (wipe σ vs) H fun σ2 H2 => wipe σ2 vs = wipe σ vs ∧ tt σ2 H2 fun b H3 => if b = true then te σ2 H3 R else R0 H3)
    (hd : ∀ H, Adv [] H1 H → H D = some (.lst (((List.range n).filter c).map ys)) → Qd H) :
    ∃ W : Nat → Nat → Hp → Prop, (∃ m, W 0 m (upd H1 D (.lst []))) ∧ ∀ i m H, W i m H →
      ((Itr 0 n).stop i H ∧ Qd H) ∨ ((Itr 0 n).go i H ∧ ∃ Nx : Hp → Prop, (∀ H', Nx H' → ∃ m', m' < m ∧ W (i + 1) m' H') ∧ ∀ x H', (Itr 0 n).yld i H x H' → g x (wipe σ vs) H' fun σ2 H2 => wipe σ2 vs = wipe σ vs ∧ tt σ2 H2 fun b H3 =>
        if b = true then te σ2 H3 fun y H4 => ∃ acc, H4 D = some (.lst acc) ∧ acc.length < sizeLine ∧ Nx (upd H4 D (.lst (acc ++ [y]))) else Nx H3) := by
  refine lc_range (lo := 0) (n := n) (tt := tt) (fun i H => Adv [] H1 H ∧ H D = some (.lst (((List.range i).filter c).map ys))) ⟨Adv.new hD, upd_same⟩ (fun i H hi p => ?_) (fun H p => hd H p.1 p.2)
  refine hs i H _ (fun y H4 => ∃ acc, H4 D = some (.lst acc) ∧ acc.length < sizeLine ∧ Adv [] H1 (upd H4 D (.lst (acc ++ [y]))) ∧ (upd H4 D (.lst (acc ++ [y]))) D = some (.lst (((List.range (i + 1)).filter c).map ys)))
    (fun H3 => Adv [] H1 H3 ∧ H3 D = some (.lst (((List.range (i + 1)).filter c).map ys))) hi p.1 p.2 (fun hc H4 e4 a4 => ⟨_, e4, ?_, Adv.mut a4 hD, ?_⟩) (fun hc H4 e4 a4 => ⟨a4, ?_⟩)
  · have h1 := List.length_filter_le c (List.range i)
    rw [List.length_range] at h1
    rw [List.length_map, sizeLine_eq]
    omega
  · rw [upd_same, range_filt_succ, if_pos hc]
  · rw [e4, range_filt_succ, if_neg (by rw [hc]; decide), List.append_nil]
end
end LL

set_option Elab.async false
set_option linter.all false
set_option maxRecDepth 100000
set_option maxHeartbeats 400000
/-! LNew: a dict from rows to rows -/
namespace LL
open PySem PySem.Spec PyProof.Rows L2
variable [KW]
def newT (l : List Nat) (f : Nat → Nat) : List (Key × V) := l.map fun (i : Nat) => (Sum.inl ((i : Nat) : Int), V.int ((f i : Nat) : Int))
theorem new_val (f : Nat → Nat) : ∀ (l : List Nat) (i : Nat), valV (newT l f) (Sum.inl (i : Int)) = if i ∈ l then some (.int (f i : Nat)) else none
  | [], i => by simp [newT, valV]
  | j :: l, i => by
    unfold newT valV
    rw [List.map_cons, List.find?_cons]
    by_cases e : j = i
    · subst e
      simp
    · have hk : ¬ (Sum.inl (j : Int) : Key) = Sum.inl (i : Int) := fun z => e (by have := Sum.inl.inj z; omega)
      rw [decide_eq_false hk]
      have ih := new_val f l i
      unfold newT valV at ih
      show Option.map _ (List.find? _ (l.map _)) = _
      rw [ih]
      have hm : i ∈ j :: l ↔ i ∈ l := by
        rw [List.mem_cons]
        exact ⟨fun z => z.resolve_left (fun y => e y.symm), .inr⟩
      by_cases h : i ∈ l
      · rw [if_pos h, if_pos (hm.mpr h)]
      · rw [if_neg h, if_neg (fun z => h (hm.mp z))]
theorem new_put {l : List Nat} {f : Nat → Nat} {i r : Nat} (h : i ∉ l) : putK (newT l f) (Sum.inl (i : Int)) (.int (r : Nat)) = newT (l ++ [i]) (fun x => if x = i then r else f x) := by
  have hno : ((newT l f).any fun kv => decide (kv.1 = Sum.inl (i : Int))) = false := by
    refine Bool.eq_false_iff.mpr fun z => ?_
    rw [List.any_eq_true] at z
    obtain ⟨p, hp, e⟩ := z
    unfold newT at hp
    obtain ⟨j, hj, rfl⟩ := List.mem_map.mp hp
    have e' := Sum.inl.inj (of_decide_eq_true e)
    have : j = i := by omega
    exact h (this ▸ hj)
  unfold putK
  rw [hno, if_neg Bool.false_ne_true]
  unfold newT
  rw [List.map_append]
  congr 1
  · apply List.map_congr_left
    intro x hx
    have hne : x ≠ i := fun z => h (by rw [← z]; exact hx)
    simp [hne]
  · simp
end LL

set_option Elab.async false
set_option linter.all false
set_option maxRecDepth 100000
set_option maxHeartbeats 400000
/-! LStep: what a step of a reading keeps -/
namespace LL
open PySem PySem.Spec PyProof.Rows L2
variable [KW]
theorem rowF_len (ns : List Nd) (n : Nd) : (rowF ns n).2.length ≤ ns.length + 1 := by
  unfold rowF
  split <;> simp
theorem denyF_pre (ns : List Nd) (r : Nat) : ns <+: (denyF ns r).2 := by
  unfold denyF
  exact (rowF_pre _ _).trans (rowF_pre _ _)
theorem denyF_len (ns : List Nd) (r : Nat) : (denyF ns r).2.length ≤ ns.length + 2 := by
  unfold denyF
  have h1 := rowF_len ns .no
  have h2 := rowF_len (rowF ns .no).2 (.bin .imp r (rowF ns .no).1)
  omega
theorem stepF_pre (w : W3) (ns : List Nd) (i : Nat) (n : Nd) (f : Nat → Nat) : ns <+: (stepF w ns i n f).2 := by
  unfold stepF
  split
  · exact List.prefix_refl _
  · exact List.prefix_refl _
  · exact (denyF_pre _ _).trans (denyF_pre _ _)
  · exact rowF_pre _ _
  · exact (((denyF_pre _ _).trans (denyF_pre _ _)).trans (rowF_pre _ _)).trans (denyF_pre _ _)
  · exact (rowF_pre _ _).trans (rowF_pre _ _)
  · exact (rowF_pre _ _).trans (rowF_pre _ _)
  · exact rowF_pre _ _
theorem stepF_len (w : W3) (ns : List Nd) (i : Nat) (n : Nd) (f : Nat → Nat) : (stepF w ns i n f).2.length ≤ ns.length + 8 := by
  unfold stepF
  split
  · simp
  · simp
  · have h1 := denyF_len ns i
    have h2 := denyF_len (denyF ns i).2 (denyF ns i).1
    omega
  · have := rowF_len ns (.box i)
    omega
  · rename_i j k
    have h1 := denyF_len ns (f j)
    have h2 := denyF_len (denyF ns (f j)).2 (f k)
    have h3 := rowF_len (denyF (denyF ns (f j)).2 (f k)).2 (.bin .and (denyF ns (f j)).1 (denyF (denyF ns (f j)).2 (f k)).1)
    have h4 := denyF_len (rowF (denyF (denyF ns (f j)).2 (f k)).2 (.bin .and (denyF ns (f j)).1 (denyF (denyF ns (f j)).2 (f k)).1)).2 (rowF (denyF (denyF ns (f j)).2 (f k)).2 (.bin .and (denyF ns (f j)).1 (denyF (denyF ns (f j)).2 (f k)).1)).1
    show (denyF _ _).2.length ≤ _
    omega
  · rename_i j k
    have h1 := rowF_len ns (.bin .imp (f j) (f k))
    have h2 := rowF_len (rowF ns (.bin .imp (f j) (f k))).2 (.box (rowF ns (.bin .imp (f j) (f k))).1)
    show (rowF _ _).2.length ≤ _
    omega
  · rename_i j
    have h1 := rowF_len ns (.box (f j))
    have h2 := rowF_len (rowF ns (.box (f j))).2 (.bin .and (f j) (rowF ns (.box (f j))).1)
    show (rowF _ _).2.length ≤ _
    omega
  · have := rowF_len ns (n.moved f)
    omega
theorem readF_snoc (w : W3) (old : List Nd) : ∀ (l : List Nat) (i : Nat) (ns : List Nd) (f : Nat → Nat),
    readF w old (l ++ [i]) ns f = ((stepF w (readF w old l ns f).1 i (old[i]?.getD .no) (readF w old l ns f).2).2, fun x => if x = i then (stepF w (readF w old l ns f).1 i (old[i]?.getD .no) (readF w old l ns f).2).1 else (readF w old l ns f).2 x)
  | [], i, ns, f => rfl
  | j :: l, i, ns, f => readF_snoc w old l i _ _
theorem readF_pre (w : W3) (old : List Nd) : ∀ (l : List Nat) (ns : List Nd) (f : Nat → Nat), ns <+: (readF w old l ns f).1
  | [], ns, f => List.prefix_refl _
  | j :: l, ns, f => (stepF_pre w ns j _ f).trans (readF_pre w old l _ _)
theorem readF_len (w : W3) (old : List Nd) : ∀ (l : List Nat) (ns : List Nd) (f : Nat → Nat), (readF w old l ns f).1.length ≤ ns.length + 8 * l.length
  | [], ns, f => by simp [readF]
  | j :: l, ns, f => by
    have h1 := stepF_len w ns j (old[j]?.getD .no) f
    have h2 := readF_len w old l (stepF w ns j (old[j]?.getD .no) f).2 (fun x => if x = j then (stepF w ns j (old[j]?.getD .no) f).1 else f x)
    show (readF w old l _ _).1.length ≤ _
    rw [List.length_cons]
    omega
theorem below_take {ns : List Nd} {rows : List Nat} {i r p : Nat} (hr : (belowF ns rows)[i]? = some r) (hp : p ∈ belowF ns rows) (hl : p < r) : p ∈ (belowF ns rows).take i := by
  have hs : (belowF ns rows).Pairwise (· < ·) := List.Pairwise.filter _ List.pairwise_lt_range
  obtain ⟨hi, e⟩ := List.getElem?_eq_some_iff.mp hr
  obtain ⟨j, hj, ej⟩ := List.getElem_of_mem hp
  rcases Nat.lt_or_ge j i with h | h
  · rw [← ej]
    exact List.mem_take_iff_getElem.mpr ⟨j, by omega, rfl⟩
  · rcases Nat.lt_or_eq_of_le h with h | h
    · have := List.pairwise_iff_getElem.mp hs i j hi hj h
      omega
    · subst h
      omega
theorem below_notin {ns : List Nd} {rows : List Nat} {i r : Nat} (hr : (belowF ns rows)[i]? = some r) : r ∉ (belowF ns rows).take i := fun z => by
  have hs : (belowF ns rows).Pairwise (· < ·) := List.Pairwise.filter _ List.pairwise_lt_range
  obtain ⟨hi, e⟩ := List.getElem?_eq_some_iff.mp hr
  obtain ⟨j, hj, ej⟩ := List.getElem_of_mem z
  rw [List.length_take] at hj
  rw [List.getElem_take] at ej
  have := List.pairwise_iff_getElem.mp hs j i (by omega) hi (by omega)
  omega
end LL

set_option Elab.async false
set_option linter.all false
set_option maxRecDepth 100000
set_option maxHeartbeats 400000
/-! LRd: the readings of the constructs as lemmas by their heads, for a reading step by step -/
namespace LL
open PySem PySem.Spec PyProof.Rows L2
variable [KW]
section
variable {σ : L2.St} {H : Hp} {Q : VK} {B : Bool → Hp → Prop} {v x y : V} {ta tb te : TE} {K : PySem.W.Frag} {u t s : TS} {D : Ends} {N : L2.St → Hp → Prop}
theorem rd_var {i : Nat} (h : σ[i]? = some (some v)) (q : Q v H) : tVar i σ H Q := ⟨v, h, q⟩
theorem rd_c (q : Q v H) : tC v σ H Q := q
theorem rd_op {r : R2} (q : ta σ H fun x H1 => tb σ H1 fun y H2 => r x y H2 Q) : tOp r ta tb σ H Q := q
theorem rd_un {r : V → Hp → VK → Prop} (q : ta σ H fun x H1 => r x H1 Q) : tUn r ta σ H Q := q
theorem rd_eq (h : scal x y = true) (q : Q (.bl (decide (x = y))) H) : rEq x y H Q := ⟨h, q⟩
theorem rd_ne (h : scal x y = true) (q : Q (.bl (!decide (x = y))) H) : rNe x y H Q := ⟨h, q⟩
theorem rd_add {i j : Int} (q : Q (.int (i + j)) H) : rAdd (.int i) (.int j) H Q := ⟨i, j, rfl, rfl, q⟩
theorem rd_sub {i j : Int} (q : Q (.int (i - j)) H) : rSub (.int i) (.int j) H Q := ⟨i, j, rfl, rfl, q⟩
theorem rd_i0 {g : Int → Int → V} {i j : Int} (q : Q (g i j) H) : rI0 g (.int i) (.int j) H Q := ⟨i, j, rfl, rfl, q⟩
theorem rd_i {C : Int → Int → Prop} {g : Int → Int → V} {i j : Int} (h : C i j) (q : Q (g i j) H) : rI C g (.int i) (.int j) H Q := ⟨i, j, rfl, rfl, h, q⟩
theorem rd_isN (q : ta σ H fun x H1 => Q (.bl (decide (x = .non))) H1) : tIsN ta σ H Q := q
theorem rd_notN (q : ta σ H fun x H1 => Q (.bl (!decide (x = .non))) H1) : tNotN ta σ H Q := q
theorem rd_test (q : te σ H fun x H' => ∃ k, x = .bl k ∧ B k H') : tTest te σ H B := q
theorem rd_tB (q : te σ H fun x H' => ∃ k, x = .bl k ∧ B k H') : tB te σ H B := q
theorem rd_bl {k : Bool} (q : B k H) : ∃ c, V.bl k = .bl c ∧ B c H := ⟨k, rfl, q⟩
theorem rd_blP {k : Bool} {P : Bool → Prop} (q : P k) : ∃ c, V.bl k = .bl c ∧ P c := ⟨k, rfl, q⟩
theorem rd_and {a b : TT} (q : a σ H fun c H1 => if c = true then b σ H1 B else B false H1) : tAnd a b σ H B := q
theorem rd_or {a b : TT} (q : a σ H fun c H1 => if c = true then B true H1 else b σ H1 B) : tOr a b σ H B := q
theorem rd_not {a : TT} (q : a σ H fun c H1 => B (!c) H1) : tNot a σ H B := q
theorem rd_andV (q : ta σ H fun x H1 => ∃ c, x = .bl c ∧ if c = true then tb σ H1 Q else Q (.bl false) H1) : tAndV ta tb σ H Q := q
theorem rd_orV (q : ta σ H fun x H1 => ∃ c, x = .bl c ∧ if c = true then Q (.bl true) H1 else tb σ H1 Q) : tOrV ta tb σ H Q := q
theorem rd_notV (q : ta σ H fun x H1 => ∃ c, x = .bl c ∧ Q (.bl (!c)) H1) : tNotV ta σ H Q := q
theorem rd_ifE {c : TT} (q : c σ H fun b H1 => if b = true then ta σ H1 Q else tb σ H1 Q) : tIf c ta tb σ H Q := q
/-! statements -/
theorem rd_seq (q : t { D with nx := u D } σ H) : tSeq t u D σ H := q
theorem rd_nx {r : VK} {b c : L2.St → Hp → Prop} (q : N σ H) : tNext ⟨N, r, b, c⟩ σ H := q
theorem rd_ret (q : te σ H D.rt) : tRet te D σ H := q
theorem rd_retN (q : D.rt .non H) : tRetN D σ H := q
theorem rd_drop (q : te σ H fun _ H1 => D.nx σ H1) : tDrop te D σ H := q
theorem rd_asg {g : TG} (q : te σ H fun x H1 => g x σ H1 D.nx) : tAsg te g D σ H := q
theorem rd_gname {i : Nat} (q : N (σ.set i (some v)) H) : gName i v σ H N := q
theorem rd_gsub {i : TE} {f : TSet} (q : ta σ H fun o H1 => i σ H1 fun i H2 => f o i v H2 fun H3 => N σ H3) : gSub ta i f v σ H N := q
theorem rd_gtup {g : TGs} {a : Addr} {n : Nat} {xs : List V} (h : SqT K H a xs) (hl : xs.length = n) (q : g xs σ H N) : gTup K n g (.ref a) σ H N := ⟨a, xs, rfl, h, hl, q⟩
theorem rd_gcons {g : TG} {g' : TGs} {r : List V} (q : g v σ H fun σ' H' => g' r σ' H' N) : gCons g g' (v :: r) σ H N := ⟨v, r, rfl, q⟩
theorem rd_gnil (q : N σ H) : gNil [] σ H N := ⟨rfl, q⟩
theorem rd_ifS {c : TT} (q : c σ H fun b H1 => if b = true then t D σ H1 else u D σ H1) : tIfS c t u D σ H := q
theorem rd_par {i j : Nat} {tt : TA} (q : tt σ H fun vs H1 => ∃ v w, vs = [v, w] ∧ D.nx ((σ.set i (some v)).set j (some w)) H1) : tPar i j tt D σ H := q
theorem rd_two {P : V → V → Prop} (q : P v x) : ∃ a b, [v, x] = [a, b] ∧ P a b := ⟨v, x, rfl, q⟩
theorem rd_par3 {i j l : Nat} {tt : TA} (q : tt σ H fun vs H1 => ∃ u v w, vs = [u, v, w] ∧ D.nx (((σ.set i (some u)).set j (some v)).set l (some w)) H1) : tPar3 i j l tt D σ H := q
theorem rd_three {z : V} {P : V → V → V → Prop} (q : P v x z) : ∃ a b c, [v, x, z] = [a, b, c] ∧ P a b c := ⟨v, x, z, rfl, q⟩
theorem rd_int1 {P : Int → Prop} {R : Prop} {i : Int} (q : P i) : (∃ j, [V.int i] = [V.int j] ∧ P j) ∨ R := .inl ⟨i, rfl, q⟩
theorem rd_for {wi : TI} {g : TG} {tb : TS} (q : wi σ H fun J H1 => ∃ W : Nat → Nat → L2.St → Hp → Prop, (∃ m, W 0 m σ H1) ∧ ∀ i m σ H, W i m σ H →
    (J.stop i H ∧ D.nx σ H) ∨ (J.go i H ∧ ∃ N : L2.St → Hp → Prop, (∀ σ' H', N σ' H' → ∃ m', m' < m ∧ W (i + 1) m' σ' H') ∧ ∀ x H', J.yld i H x H' → g x σ H' fun σ2 H2 => tb { D with nx := N, ct := N, bk := D.nx } σ2 H2)) : tFor wi g tb D σ H := q
theorem rd_rng1 {ta : TA} {R : It → Hp → Prop} (q : ta σ H fun vs H1 => ∃ j : Int, vs = [.int j] ∧ -(2 ^ 62) ≤ j ∧ j < 2 ^ 62 ∧ R (Itr 0 j.toNat) H1) : iRng1 ta σ H R := q
theorem rd_rng2 {ta : TA} {R : It → Hp → Prop} (q : ta σ H fun vs H1 => ∃ i j : Int, vs = [.int i, .int j] ∧ (-(2 ^ 62) ≤ i ∧ i < 2 ^ 62 ∧ -(2 ^ 62) ≤ j ∧ j < 2 ^ 62) ∧ R (Itr i (j - i).toNat) H1) : iRng2 ta σ H R := q
theorem rd_ints1 {P : Int → Prop} {i : Int} (q : P i) : ∃ j, [V.int i] = [V.int j] ∧ P j := ⟨i, rfl, q⟩
theorem rd_ints2 {P : Int → Int → Prop} {i j : Int} (q : P i j) : ∃ a b, [V.int i, V.int j] = [V.int a, V.int b] ∧ P a b := ⟨i, j, rfl, q⟩
/-! arguments, displays -/
theorem rd_nil {A : List V → Hp → Prop} (q : A [] H) : tNil σ H A := q
theorem rd_cons {tr : TA} {A : List V → Hp → Prop} (q : ta σ H fun x H1 => tr σ H1 fun xs H2 => A (x :: xs) H2) : tCons ta tr σ H A := q
theorem rd_tup {tt : TA} (q : tt σ H fun xs H1 => xs.length ≤ sizeLine ∧ ∀ p, H1 p = none → Q (.ref p) (upd H1 p (.tup xs))) : tTup tt σ H Q := q
theorem rd_lst {tt : TA} (q : tt σ H fun xs H1 => xs.length ≤ sizeLine ∧ ∀ p, H1 p = none → Q (.ref p) (upd H1 p (.lst xs))) : tLst tt σ H Q := q
theorem rd_call {sp : Sp} {dvs : List V} {E : XK} {tt : TA} (q : tt σ H fun vs H1 => sp (vs ++ dvs) H1 Q E) : tCall sp dvs E tt σ H Q := q
theorem rd_make {C : Addr} {sp : Sp} {dvs : List V} {E : XK} {tt : TA} (q : tt σ H fun vs H1 => ∀ x dx, H1 x = none → H1 dx = none → dx ≠ x → sp (.ref x :: (vs ++ dvs)) (upd (upd H1 dx (.own x)) x (.ins C dx [])) (fun v H2 => v = .non ∧ Q (.ref x) H2) E) : tMake C sp dvs E tt σ H Q := q
theorem rd_callS {sp : Sp} {E : L2.St → XK} {tt : TA} (q : tt σ H fun vs H1 => sp vs H1 Q (E σ)) : tCallS sp E tt σ H Q := q
theorem rd_cb {r : List V → Hp → VK → Prop} {tt : TA} (q : tt σ H fun vs H1 => r vs H1 Q) : tCB r tt σ H Q := q
theorem rd_meth {C : Addr} {m : Str} {sp : Sp} {dvs : List V} {E : XK} {tt : TA} (q : ta σ H fun x H1 => ∃ a dx fs, x = .ref a ∧ H1 a = some (.ins C dx fs) ∧ fs.lookup m = none ∧ tt σ H1 fun vs H2 => sp (x :: (vs ++ dvs)) H2 Q E) : tMeth C m sp dvs E ta tt σ H Q := q
theorem rd_methA {C a dx : Addr} {fs : List (Str × V)} {m : Str} {T : Prop} (h : H a = some (.ins C dx fs)) (hm : fs.lookup m = none) (q : T) : ∃ a' dx' fs', V.ref a = .ref a' ∧ H a' = some (.ins C dx' fs') ∧ fs'.lookup m = none ∧ T := ⟨a, dx, fs, rfl, h, hm, q⟩
theorem rd_fld {f : Str} (q : ta σ H fun x H1 => ∃ a C dx fs v, x = .ref a ∧ H1 a = some (.ins C dx fs) ∧ Cls K C ∧ NoAttr K C f ∧ fs.lookup f = some v ∧ Q v H1) : tFld K ta f σ H Q := q
theorem rd_fldA {f : Str} {a C dx : Addr} {fs : List (Str × V)} (h : H a = some (.ins C dx fs)) (hc : Cls K C) (hn : NoAttr K C f) (hl : fs.lookup f = some v) {P : V → Prop} (q : P v) :
    ∃ a' C' dx' fs' v', V.ref a = .ref a' ∧ H a' = some (.ins C' dx' fs') ∧ Cls K C' ∧ NoAttr K C' f ∧ fs'.lookup f = some v' ∧ P v' := ⟨a, C, dx, fs, v, rfl, h, hc, hn, hl, q⟩
theorem rd_part {Z : Option Int → Hp → Prop} (q : te σ H fun x H1 => ∃ i, x = .int i ∧ Z (some i) H1) : tPart te σ H Z := q
theorem rd_nopart {Z : Option Int → Hp → Prop} (q : Z none H) : tNoPart σ H Z := q
theorem rd_int {P : Int → Prop} {i : Int} (q : P i) : ∃ j, V.int i = .int j ∧ P j := ⟨i, rfl, q⟩
theorem rd_sl {r : V → Option Int → Option Int → Hp → VK → Prop} {tl th : TO} (q : te σ H fun x H1 => tl σ H1 fun l H2 => th σ H2 fun u H3 => r x l u H3 Q) : tSl r te tl th σ H Q := q
theorem rd_bm {T : String} {r : V → List V → Hp → VK → Prop} {tt : TA} (q : te σ H fun x H1 => tyV K T x H1 ∧ tt σ H1 fun xs H2 => r x xs H2 Q) : tBM K T r te tt σ H Q := q
theorem rd_bm0 {T : String} {r : V → List V → Hp → VK → Prop} (q : te σ H fun x H1 => tyV K T x H1 ∧ r x [] H1 Q) : tBM0 K T r te σ H Q := q
theorem rd_tyL {a : Addr} {xs : List V} {T : Prop} (h : H a = some (.lst xs)) (q : T) : tyV K "list" (.ref a) H ∧ T := ⟨.inl ⟨rfl, _, SqL.of h⟩, q⟩
/-! readings of the heap -/
theorem rd_slL {a : Addr} {xs : List V} {lo hi : Option Int} (h : H a = some (.lst xs)) (q : ∀ p, H p = none → Q (.ref p) (upd H p (.lst (cutV xs lo hi)))) : rSlL K (.ref a) lo hi H Q := ⟨a, xs, rfl, SqL.of h, q⟩
theorem rd_cat {l b : Addr} {xs zs : List V} (h : H l = some (.lst xs)) (h2 : H b = some (.lst zs)) (hl : xs.length + zs.length ≤ sizeLine) (q : ∀ p, H p = none → Q (.ref p) (upd H p (.lst (xs ++ zs)))) : rCat (.ref l) (.ref b) H Q := ⟨l, b, xs, zs, rfl, rfl, h, h2, hl, q⟩
theorem rd_u {g : Int → V} {i : Int} (q : Q (g i) H) : rU g (.int i) H Q := ⟨i, rfl, q⟩
theorem rd_ixL {p : Addr} {xs : List V} {i : Int} (h : H p = some (.lst xs)) (e : atI xs i = some v) (q : Q v H) : rIxL K (.ref p) (.int i) H Q := ⟨p, xs, i, v, rfl, rfl, SqL.of h, e, q⟩
theorem rd_ixT {p : Addr} {xs : List V} {i : Int} (h : SqT K H p xs) (e : atI xs i = some v) (q : Q v H) : rIxT K (.ref p) (.int i) H Q := ⟨p, xs, i, v, rfl, rfl, h, e, q⟩
theorem rd_lenT {xs : List V} {p : Addr} {P : List V → Prop} (h : SqT K H p xs) (q : P xs) : ∃ (p' : Addr) (xs' : List V), [V.ref p] = [V.ref p'] ∧ (SqL K H p' xs' ∨ SqT K H p' xs') ∧ P xs' := ⟨p, xs, rfl, .inr h, q⟩
theorem rd_len {xs : List V} {p : Addr} {P : List V → Prop} (h : H p = some (.lst xs)) (q : P xs) : ∃ (p' : Addr) (xs' : List V), [V.ref p] = [V.ref p'] ∧ (SqL K H p' xs' ∨ SqT K H p' xs') ∧ P xs' := ⟨p, xs, rfl, .inl (SqL.of h), q⟩
theorem rd_app {l : Addr} {xs : List V} (h : H l = some (.lst xs)) (hl : xs.length < sizeLine) (q : Q .non (upd H l (.lst (xs ++ [y])))) : rAppend (.ref l) [y] H Q := ⟨l, xs, y, rfl, rfl, h, hl, q⟩
theorem rd_slT {a : Addr} {xs : List V} {lo hi : Option Int} (h : H a = some (.tup xs)) : rSlT K (.ref a) lo hi H Q ↔ rSlT K (.ref a) lo hi H Q := Iff.rfl
theorem rd_dgetT {td ty : TE} (q : td σ H fun x H1 => ty σ H1 fun y H2 => ∃ a v, x = .ref a ∧ DGet H2 a y (some v) ∧ Q v H2) : tDGet td ty σ H Q := q
theorem rd_dget {a : Addr} {P : V → Prop} (h : DGet H a y (some v)) (q : P v) : ∃ a' v', V.ref a = .ref a' ∧ DGet H a' y (some v') ∧ P v' := ⟨a, v, rfl, h, q⟩
theorem rd_dgx {a : Addr} {P : V → Prop} (h : DGX K H a y (some v)) (q : P v) : ∃ a' v', V.ref a = .ref a' ∧ DGX K H a' y (some v') ∧ P v' := ⟨a, v, rfl, h, q⟩
theorem rd_din {td ty : TE} (q : ty σ H fun y H1 => td σ H1 fun x H2 => ∃ a o, x = .ref a ∧ DGet H2 a y o ∧ Q (.bl o.isSome) H2) : tDIn ty td σ H Q := q
theorem rd_dnin {td ty : TE} (q : ty σ H fun y H1 => td σ H1 fun x H2 => ∃ a o, x = .ref a ∧ DGet H2 a y o ∧ Q (.bl (!o.isSome)) H2) : tDNotIn ty td σ H Q := q
end
theorem rd_rfl {α : Type} {x : α} {T : Prop} (q : T) : x = x ∧ T := ⟨rfl, q⟩
theorem Adv.get' {M : List Addr} {H H' : Hp} {p : Addr} {o : HO} (a : Adv M H H') (e : H p = some o) (hp : p ∉ M) : H' p = some o := a p o hp e
theorem notin2 {a b c : Addr} (h : a ≠ b) (h' : a ≠ c) : a ∉ [b, c] := by simp [h, h']
theorem notin1 {a b : Addr} (h : a ≠ b) : a ∉ [b] := by simp [h]
theorem notin0 {a : Addr} : a ∉ ([] : List Addr) := by simp
end LL

set_option Elab.async false
set_option linter.all false
set_option maxRecDepth 100000
set_option maxHeartbeats 400000
/-! LDue: the answers of the three readings, in plain words -/
namespace LL
open PySem PySem.Spec PyProof.Rows L2
variable [KW]
def W3.boxes : W3 → Bool
  | .dou => true
  | _ => false
def lenD : PyData → Nat
  | .list ds => ds.length
  | _ => 0
/-- the grown sheet and the rows' readings -/
def readA (w : W3) (ns : List Nd) (row : Nat) : List Nd × (Nat → Nat) := readF w ns (belowF ns [row]) ns (fun _ => 0)
/-- what is due -/
inductive Due (w : W3) (d r : PyData) : PyData → Prop
  | sheet (i : Int) (h : wrongD 5000 w.boxes d = some i) : Due w d r (.tuple [.str "BadSheet", .int i])
  | value (h : wrongD 5000 w.boxes d = none) (h2 : isNum 0 ((lenD d : Int) - 1) r = false) : Due w d r (.tuple [.str "BadValue", .str "row"])
  | told (ns : List Nd) (row : Nat) (h : wrongD 5000 w.boxes d = none) (hd : d = .list (ns.map Nd.data)) (ok : okSheet w.boxes ns) (hl : ns.length ≤ 5000) (hr : r = .int row) (hlt : row < ns.length) :
      Due w d r (.tuple [.str "told", .tuple [.list ((readA w ns row).1.map Nd.data), .int ((readA w ns row).2 row : Nat)]])
theorem due_ex (w : W3) (d r : PyData) : ∃ e, Due w d r e := by
  cases h : wrongD 5000 w.boxes d with
  | some i => exact ⟨_, .sheet i h⟩
  | none =>
    cases h2 : isNum 0 ((lenD d : Int) - 1) r with
    | false => exact ⟨_, .value h h2⟩
    | true =>
      obtain ⟨ns, rfl, ok, hl⟩ := wrongD_none (by decide) h
      obtain ⟨i, rfl, h3, h4⟩ := num_nat h2 (by decide)
      have e : lenD (.list (ns.map Nd.data)) = ns.length := by show (ns.map Nd.data).length = ns.length; rw [List.length_map]
      rw [e] at h4
      exact ⟨_, .told ns i h rfl ok (by omega) rfl (by omega)⟩
theorem nd_data_inj {m n : Nd} (h : m.data = n.data) : m = n := by
  have : m.keys = n.keys := by rw [← Nd.keysD, ← Nd.keysD, h]
  exact keys_inj this
theorem nds_inj : ∀ {ms ns : List Nd}, ms.map Nd.data = ns.map Nd.data → ms = ns
  | [], [], _ => rfl
  | [], n :: ns, h => by simp at h
  | m :: ms, [], h => by simp at h
  | m :: ms, n :: ns, h => by
    rw [List.map_cons, List.map_cons] at h
    injection h with h1 h2
    rw [nd_data_inj h1, nds_inj h2]
theorem nd_sz (n : Nd) : sz n.data ≤ 4 := by
  unfold Nd.data
  rw [sz_tup, ks_sz]
  cases n <;> simp [Nd.keys]
theorem nds_sz (ns : List Nd) : szL (ns.map Nd.data) ≤ 4 * ns.length := by
  induction ns with
  | nil => rw [List.map_nil, szL_nil]; exact Nat.zero_le _
  | cons n ns ih =>
    rw [List.map_cons, szL_cons, List.length_cons]
    have := nd_sz n
    omega
theorem below_len (ns : List Nd) (rows : List Nat) : (belowF ns rows).length ≤ ns.length := by
  have := List.length_filter_le (marked ns rows) (List.range ns.length)
  rw [List.length_range] at this
  exact this
theorem readA_len (w : W3) (ns : List Nd) (row : Nat) : (readA w ns row).1.length ≤ 9 * ns.length := by
  have h1 := readF_len w ns (belowF ns [row]) ns (fun _ => 0)
  have h2 := below_len ns [row]
  unfold readA
  omega
theorem due_sz {w : W3} {d r e : PyData} (h : Due w d r e) : sz e ≤ 1000000 := by
  cases h with
  | sheet i h => rw [sz_tup, szL_cons, szL_cons, szL_nil]; unfold sz; decide
  | value h h2 => rw [sz_tup, szL_cons, szL_cons, szL_nil]; unfold sz; decide
  | told ns row h hd ok hl hr hlt =>
    have h1 := nds_sz (readA w ns row).1
    have h2 := readA_len w ns row
    rw [sz_tup, szL_cons, szL_cons, szL_nil, sz_tup, szL_cons, szL_cons, szL_nil, sz_lst]
    have e1 : ∀ x, sz (.str x) = 1 := fun x => by unfold sz; rfl
    have e2 : ∀ x, sz (.int x) = 1 := fun x => by unfold sz; rfl
    rw [e1, e2]
    omega
theorem due_sheet {w : W3} {d r e : PyData} {i : Int} (h : Due w d r e) (hi : wrongD 5000 w.boxes d = some i) : e = .tuple [.str "BadSheet", .int i] := by
  cases h with
  | sheet j h => rw [hi] at h; cases h; rfl
  | value h _ => rw [hi] at h; cases h
  | told _ _ h => rw [hi] at h; cases h
theorem due_value {w : W3} {d r e : PyData} (h : Due w d r e) (hi : wrongD 5000 w.boxes d = none) (h2 : isNum 0 ((lenD d : Int) - 1) r = false) : e = .tuple [.str "BadValue", .str "row"] := by
  cases h with
  | sheet j h => rw [hi] at h; cases h
  | value h _ => rfl
  | told ns row h hd ok hl hr hlt =>
    subst hd hr
    have el : lenD (.list (ns.map Nd.data)) = ns.length := by show (ns.map Nd.data).length = ns.length; rw [List.length_map]
    rw [el] at h2
    simp [isNum] at h2
    omega
theorem due_told {w : W3} {d r e : PyData} (h : Due w d r e) {ns : List Nd} {row : Nat} (hi : wrongD 5000 w.boxes d = none) (hd : d = .list (ns.map Nd.data)) (hr : r = .int (row : Nat)) (hlt : row < ns.length) :
    e = .tuple [.str "told", .tuple [.list ((readA w ns row).1.map Nd.data), .int ((readA w ns row).2 row : Nat)]] := by
  cases h with
  | sheet j h => rw [hi] at h; cases h
  | value h h2 =>
    subst hd hr
    have el : lenD (.list (ns.map Nd.data)) = ns.length := by show (ns.map Nd.data).length = ns.length; rw [List.length_map]
    rw [el] at h2
    simp [isNum] at h2
    omega
  | told ns' row' h hd' ok hl hr' hlt' =>
    rw [hd] at hd'
    have e1 : ns.map Nd.data = ns'.map Nd.data := by injection hd'
    have e2 := nds_inj e1
    rw [hr] at hr'
    have e3 : (row : Int) = row' := by injection hr'
    have e4 : row = row' := by omega
    subst e2 e4
    rfl
end LL

set_option Elab.async false
set_option linter.all false
set_option maxRecDepth 100000
set_option maxHeartbeats 400000
/-! LDw: a stream s and a book bk (a list b0 of nodes, their table b1) while formulas are drawn -/
namespace LL
open PySem PySem.Spec PyProof.Rows L2
variable [KW]
structure Dw (M : List Addr) (H : Hp) (s bk b0 b1 : Addr) (bx : Bool) (ns : List Nd) : Prop where
  str : StrAt M H s
  hbk : H bk = some (.lst [.ref b0, .ref b1])
  ms : s ∈ M
  kM : bk ∉ M
  s0 : s ≠ b0
  s1 : s ≠ b1
  B : BkN M H b0 b1 ns
  ok : okSheet bx ns
section
variable {M N : List Addr} {H H' : Hp} {s bk b0 b1 p : Addr} {bx : Bool} {ns : List Nd} {o : HO}
theorem Dw.ks (x : Dw M H s bk b0 b1 bx ns) : bk ∉ [s] := by simp; exact fun z => x.kM (by rw [z]; exact x.ms)
theorem Dw.kb (x : Dw M H s bk b0 b1 bx ns) : bk ∉ [b0, b1] := fun z => by
  rcases List.mem_cons.mp z with z | z
  · exact x.kM (by rw [z]; exact x.B.m0)
  · exact x.kM (by rw [List.mem_singleton.mp z]; exact x.B.m1)
theorem Dw.next (x : Dw M H s bk b0 b1 bx ns) (a : Adv [s] H H') (hs : StrAt M H' s) : Dw M H' s bk b0 b1 bx ns :=
  ⟨hs, a _ _ x.ks x.hbk, x.ms, x.kM, x.s0, x.s1, x.B.adv a (by simpa using x.s0.symm) (by simpa using x.s1.symm) (by simp [x.ms]) (by simpa using hs.here), x.ok⟩
theorem Dw.same (x : Dw M H s bk b0 b1 bx ns) (a : Adv [] H H') : Dw M H' s bk b0 b1 bx ns :=
  ⟨x.str.same a, a.same _ _ x.hbk, x.ms, x.kM, x.s0, x.s1, x.B.same a, x.ok⟩
theorem Dw.free (x : Dw M H s bk b0 b1 bx ns) (h : H p = none) : p ∉ M ∧ p ≠ s ∧ p ≠ bk ∧ p ≠ b0 ∧ p ≠ b1 := by
  have hm : p ∉ M := fun z => x.B.al p z h
  refine ⟨hm, fun z => hm (by rw [z]; exact x.ms), fun z => ?_, fun z => hm (by rw [z]; exact x.B.m0), fun z => hm (by rw [z]; exact x.B.m1)⟩
  rw [z, x.hbk] at h; cases h
theorem Dw.fresh (x : Dw M H s bk b0 b1 bx ns) (h : H p = none) : Dw (p :: M) (upd H p o) s bk b0 b1 bx ns := by
  have hf := x.free h
  exact ⟨(x.str.fresh h).same (Adv.new h), by rw [upd_ne hf.2.2.1.symm]; exact x.hbk, by simp [x.ms], by simp [hf.2.2.1.symm, x.kM], x.s0, x.s1, x.B.fresh h, x.ok⟩
theorem Dw.less (x : Dw M H s bk b0 b1 bx ns) (h : ∀ b ∈ N, b ∈ M) (ms : s ∈ N) (m0 : b0 ∈ N) (m1 : b1 ∈ N) : Dw N H s bk b0 b1 bx ns :=
  ⟨x.str.less h, x.hbk, ms, fun z => x.kM (h _ z), x.s0, x.s1, x.B.less h m0 m1, x.ok⟩
/-- an object of M that is neither the stream nor the book is changed -/
theorem Dw.put (x : Dw M H s bk b0 b1 bx ns) (hp : p ∈ M) (n0 : p ≠ s) (n1 : p ≠ b0) (n2 : p ≠ b1) : Dw M (upd H p o) s bk b0 b1 bx ns := by
  have a : Adv [p] H (upd H p o) := Adv.set (by simp)
  have kp : bk ≠ p := fun z => x.kM (by rw [z]; exact hp)
  exact ⟨x.str.adv a (by simpa using n0.symm) (by simp [hp]), by rw [upd_ne kp]; exact x.hbk, x.ms, x.kM, x.s0, x.s1, x.B.adv a (by simpa using n1.symm) (by simpa using n2.symm) (by simp [hp]) (by simp [upd_same]), x.ok⟩
theorem Dw.row {n : Nd} (x : Dw M H s bk b0 b1 bx ns) (hn : n.ok bx ns.length = true) (a : Adv [b0, b1] H H') (B : BkN M H' b0 b1 (rowF ns n).2) : Dw M H' s bk b0 b1 bx (rowF ns n).2 :=
  ⟨x.str.adv a (notin2 x.s0 x.s1) (by simp [x.B.m0, x.B.m1]), a _ _ x.kb x.hbk, x.ms, x.kM, x.s0, x.s1, B, rowF_ok x.ok hn⟩
theorem a_s {b : Addr} {c : Addr} (a : Adv [s] H H') : Adv [s, b, c] H H' := a.more (by simp)
theorem a_b {b c : Addr} (a : Adv [b, c] H H') : Adv [s, b, c] H H' := a.more (by simp +contextual)
end
/-- what a draw hands back -/
structure Dn (c : Nat) (M : List Addr) (s bk b0 b1 : Addr) (bx : Bool) (ns : List Nd) (H : Hp) (r : Nat) (ns' : List Nd) (H' : Hp) : Prop where
  pre : ns <+: ns'
  lt : r < ns'.length
  le : ns'.length ≤ ns.length + c
  D : Dw M H' s bk b0 b1 bx ns'
  a : Adv [s, b0, b1] H H'
theorem Dn.ge {c : Nat} {M : List Addr} {s bk b0 b1 : Addr} {bx : Bool} {ns : List Nd} {H : Hp} {r : Nat} {ns' : List Nd} {H' : Hp} (x : Dn c M s bk b0 b1 bx ns H r ns' H') : ns.length ≤ ns'.length := x.pre.length_le
end LL

set_option Elab.async false
set_option linter.all false
set_option maxRecDepth 100000
set_option maxHeartbeats 400000
/-! LOk: a reading keeps a sheet right -/
namespace LL
open PySem PySem.Spec PyProof.Rows L2
variable [KW]
theorem denyF_ok {bx : Bool} {ns : List Nd} {r : Nat} (ok : okSheet bx ns) (h : r < ns.length) : okSheet bx (denyF ns r).2 ∧ (denyF ns r).1 < (denyF ns r).2.length := by
  have o1 : okSheet bx (rowF ns .no).2 := rowF_ok ok rfl
  have l1 := rowF_lt ns .no
  have p1 := (rowF_pre ns .no).length_le
  unfold denyF
  exact ⟨rowF_ok o1 (by simp only [Nd.ok, Bool.and_eq_true, decide_eq_true_eq]; omega), rowF_lt _ _⟩
theorem moved_ok {bx : Bool} {ns : List Nd} {n : Nd} {f : Nat → Nat} {i : Nat} (hn : n.ok bx i = true) (hf : ∀ p ∈ n.parts, f p < ns.length) : (n.moved f).ok bx ns.length = true := by
  cases n with
  | no => rfl
  | letter j => exact hn
  | bin o j k =>
    simp only [Nd.moved, Nd.ok, Bool.and_eq_true, decide_eq_true_eq]
    exact ⟨hf j (by simp [Nd.parts]), hf k (by simp [Nd.parts])⟩
  | box j =>
    simp only [Nd.moved, Nd.ok, Bool.and_eq_true, decide_eq_true_eq] at hn ⊢
    exact ⟨hn.1, hf j (by simp [Nd.parts])⟩
theorem step1 {bx : Bool} {ns : List Nd} {n : Nd} (ok : okSheet bx ns) (hn : n.ok bx ns.length = true) : okSheet bx (rowF ns n).2 ∧ (rowF ns n).1 < (rowF ns n).2.length ∧ ns.length ≤ (rowF ns n).2.length :=
  ⟨rowF_ok ok hn, rowF_lt _ _, (rowF_pre ns n).length_le⟩
theorem stepF_ok {w : W3} {bx : Bool} {ns : List Nd} {n : Nd} {i : Nat} {f : Nat → Nat} (hw : w = .neg ∨ bx = true) (ok : okSheet bx ns) (hn : n.ok bx i = true) (hi : i < ns.length) (hf : ∀ p ∈ n.parts, f p < ns.length) :
    okSheet bx (stepF w ns i n f).2 ∧ (stepF w ns i n f).1 < (stepF w ns i n f).2.length := by
  have hm := moved_ok (ns := ns) hn hf
  have plain : okSheet bx (rowF ns (n.moved f)).2 ∧ (rowF ns (n.moved f)).1 < (rowF ns (n.moved f)).2.length := ⟨(step1 ok hm).1, (step1 ok hm).2.1⟩
  unfold stepF
  split
  · exact ⟨ok, hi⟩
  · exact ⟨ok, hi⟩
  · obtain ⟨o1, l1⟩ := denyF_ok ok hi
    exact denyF_ok o1 l1
  · rcases hw with hw | hw
    · cases hw
    · have := step1 ok (n := .box i) (by simp only [Nd.ok, Bool.and_eq_true, decide_eq_true_eq]; exact ⟨hw, hi⟩)
      exact ⟨this.1, this.2.1⟩
  · rename_i j k
    have hj := hf j (by simp [Nd.parts])
    have hk := hf k (by simp [Nd.parts])
    obtain ⟨o1, l1⟩ := denyF_ok ok hj
    have p1 := (denyF_pre ns (f j)).length_le
    obtain ⟨o2, l2⟩ := denyF_ok o1 (r := f k) (by omega)
    have p2 := (denyF_pre (denyF ns (f j)).2 (f k)).length_le
    obtain ⟨o3, l3, p3⟩ := step1 o2 (n := .bin .and (denyF ns (f j)).1 (denyF (denyF ns (f j)).2 (f k)).1) (by simp only [Nd.ok, Bool.and_eq_true, decide_eq_true_eq]; omega)
    exact denyF_ok o3 l3
  · rename_i j k
    obtain ⟨o1, l1, p1⟩ := step1 ok (n := .bin .imp (f j) (f k)) hm
    rcases hw with hw | hw
    · cases hw
    · have := step1 o1 (n := .box (rowF ns (.bin .imp (f j) (f k))).1) (by simp only [Nd.ok, Bool.and_eq_true, decide_eq_true_eq]; exact ⟨hw, l1⟩)
      exact ⟨this.1, this.2.1⟩
  · rename_i j
    have hj := hf j (by simp [Nd.parts])
    obtain ⟨o1, l1, p1⟩ := step1 ok (n := .box (f j)) hm
    have := step1 o1 (n := .bin .and (f j) (rowF ns (.box (f j))).1) (by simp only [Nd.ok, Bool.and_eq_true, decide_eq_true_eq]; omega)
    exact ⟨this.1, this.2.1⟩
  · exact plain
theorem readF_ok {w : W3} {bx : Bool} {old : List Nd} (hw : w = .neg ∨ bx = true) (oo : okSheet bx old) : ∀ (l : List Nat) (ns : List Nd) (f : Nat → Nat) (done : List Nat), okSheet bx ns → old.length ≤ ns.length → (∀ i ∈ done, f i < ns.length) →
    (∀ i ∈ l, i < old.length) → (∀ (a : List Nat) (i : Nat) (b : List Nat) (n : Nd), l = a ++ i :: b → old[i]? = some n → ∀ p ∈ n.parts, p ∈ done ++ a) → okSheet bx (readF w old l ns f).1
  | [], ns, f, done, ok, _, _, _, _ => ok
  | i :: l, ns, f, done, ok, hl, hd, hi, hp => by
    have hil := hi i List.mem_cons_self
    have hni : old[i]? = some old[i] := List.getElem?_eq_getElem hil
    have hs := stepF_ok (w := w) (ns := ns) (n := old[i]) (i := i) (f := f) hw ok (oo.2 i _ hni) (by omega) (fun p hp' => hd p (by have := hp [] i l _ rfl hni p hp'; simpa using this))
    have hpre := (stepF_pre w ns i old[i] f).length_le
    unfold readF
    rw [hni]
    refine readF_ok hw oo l _ _ (done ++ [i]) hs.1 (by show old.length ≤ (stepF w ns i old[i] f).2.length; omega) (fun j hj => ?_) (fun j hj => hi j (List.mem_cons_of_mem _ hj)) (fun a j b n e hn p hp' => ?_)
    · show (if j = i then (stepF w ns i old[i] f).1 else f j) < (stepF w ns i old[i] f).2.length
      by_cases e : j = i
      · rw [if_pos e]; exact hs.2
      · rw [if_neg e]
        rcases List.mem_append.mp hj with hj | hj
        · have := hd j hj; omega
        · exact absurd (List.mem_singleton.mp hj) e
    · have := hp (i :: a) j b n (by rw [e]; rfl) hn p hp'
      rw [List.append_assoc]
      exact this
theorem readA_ok {w : W3} {bx : Bool} {ns : List Nd} {row : Nat} (hw : w = .neg ∨ bx = true) (ok : okSheet bx ns) : okSheet bx (readA w ns row).1 := by
  refine readF_ok hw ok _ ns _ [] ok (Nat.le_refl _) (fun i hi => nomatch hi) (fun i hi => (below_mem.mp hi).1) (fun a i b n e hn p hp => ?_)
  have hm : i ∈ belowF ns [row] := by rw [e]; simp
  obtain ⟨h1, h2⟩ := below_parts ok hm hn p hp
  have hr : (belowF ns [row])[a.length]? = some i := by rw [e]; simp
  have := below_take hr h1 h2
  rw [e, List.take_append_of_le_length (Nat.le_refl _), List.take_length] at this
  simpa using this
theorem readA_pre (w : W3) (ns : List Nd) (row : Nat) : ns <+: (readA w ns row).1 := readF_pre w ns _ ns _
theorem Dw.read {M : List Addr} {H H' : Hp} {s bk b0 b1 : Addr} {bx : Bool} {ns : List Nd} {w : W3} {row : Nat} (x : Dw M H s bk b0 b1 bx ns) (hw : w = .neg ∨ bx = true) (a : Adv [b0, b1] H H') (B : BkN M H' b0 b1 (readA w ns row).1) : Dw M H' s bk b0 b1 bx (readA w ns row).1 :=
  ⟨x.str.adv a (notin2 x.s0 x.s1) (by simp [x.B.m0, x.B.m1]), a _ _ x.kb x.hbk, x.ms, x.kM, x.s0, x.s1, B, readA_ok hw x.ok⟩
/-- a new book -/
theorem Dw.new {M : List Addr} {H : Hp} {s b0 b1 bk : Addr} {bx : Bool} (hs : StrAt M H s) (ms : s ∈ M) (hal : ∀ b ∈ M, H b ≠ none) (n0 : H b0 = none) (n1 : (upd H b0 (.lst [])) b1 = none) (nk : (upd (upd H b0 (.lst [])) b1 (dxo b1 [])) bk = none) :
    Dw (b1 :: b0 :: M) (upd (upd (upd H b0 (.lst [])) b1 (dxo b1 [])) bk (.lst [.ref b0, .ref b1])) s bk b0 b1 bx [] := by
  have e01 : b0 ≠ b1 := ne_of_none (upd_same (H := H)) n1
  have a0 : Adv [] H (upd H b0 (.lst [])) := Adv.new n0
  have a1 : Adv [] (upd H b0 (.lst [])) (upd (upd H b0 (.lst [])) b1 (dxo b1 [])) := Adv.new n1
  have a2 : Adv [] _ (upd (upd (upd H b0 (.lst [])) b1 (dxo b1 [])) bk (.lst [.ref b0, .ref b1])) := Adv.new nk
  have h0 : (upd (upd H b0 (.lst [])) b1 (dxo b1 [])) b0 = some (.lst []) := a1.same _ _ upd_same
  have h1 : (upd (upd H b0 (.lst [])) b1 (dxo b1 [])) b1 = some (dxo b1 []) := upd_same
  have k0 : bk ≠ b0 := (ne_of_none h0 nk).symm
  have k1 : bk ≠ b1 := (ne_of_none h1 nk).symm
  have nkH : H bk = none := a0.free (by simp) (a1.free (by simp) nk)
  have s0 : s ≠ b0 := fun z => hal s ms (by rw [z]; exact n0)
  have s1 : s ≠ b1 := fun z => hal s ms (by rw [z]; exact a0.free (by simp) n1)
  refine ⟨(((hs.fresh n0).same a0).fresh n1).same (a1.trans a2), upd_same, by simp [ms], fun z => ?_, s0, s1, ⟨⟨[], a2.same _ _ h0, .nil⟩, (Tab.new h1).same a2, by simp, by simp, e01, fun b hb => ?_⟩, ⟨List.nodup_nil, fun i n hi => by simp at hi⟩⟩
  · rcases List.mem_cons.mp z with z | z
    · exact k1 z
    · rcases List.mem_cons.mp z with z | z
      · exact k0 z
      · exact hal bk z nkH
  · rcases List.mem_cons.mp hb with z | hb
    · rw [z, a2.same _ _ h1]; simp
    · rcases List.mem_cons.mp hb with z | hb
      · rw [z, a2.same _ _ h0]; simp
      · cases e : H b with
        | none => exact absurd e (hal b hb)
        | some o => rw [((a0.trans a1).trans a2).same _ _ e]; simp
theorem nd_dep (n : Nd) : dep n.data ≤ 1 := by
  unfold Nd.data
  rw [dep_tup, ks_dep]
  omega
theorem new_at {H : Hp} {p : Addr} {o : HO} (_ : H p = none) : (upd H p o) p = some o := upd_same
theorem sz_non : sz .none = 1 := by unfold sz; rfl
theorem dep_non : dep .none = 0 := by unfold dep; rfl
/-! ### small data -/
def scV : V → Bool
  | .non => true
  | .bl _ => true
  | .int _ => true
  | .str _ => true
  | _ => false
def scD : V → PyData
  | .bl b => .bool b
  | .int i => .int i
  | .str x => .str x
  | _ => .none
theorem sc_is {M : List Addr} {H : Hp} {v : V} (h : scV v = true) : Is M H (scD v) v := by
  cases v with
  | non => exact Is.non
  | bl b => exact Is.bl
  | int i => exact Is.int
  | str x => exact Is.str
  | _ => cases h
theorem sc_sz (v : V) : sz (scD v) = 1 := by cases v <;> (unfold scD sz; rfl)
theorem sc_dep (v : V) : dep (scD v) = 0 := by cases v <;> (unfold scD dep; rfl)
/-- a small datum -/
def SmD (M : List Addr) (H : Hp) (v : V) : Prop := ∃ d, Is M H d v ∧ sz d ≤ 10 ∧ dep d ≤ 3
def SmDs (M : List Addr) (H : Hp) (vs : List V) : Prop := ∃ ds, IsDs M H ds vs ∧ ∀ d ∈ ds, sz d ≤ 10 ∧ dep d ≤ 3
section
variable {M N : List Addr} {H H' : Hp} {v : V} {vs ws : List V} {p : Addr}
theorem SmD.adv (x : SmD M H v) (a : Adv M H H') : SmD M H' v := let ⟨d, h, z⟩ := x; ⟨d, h.adv a, z⟩
theorem SmDs.adv (x : SmDs M H vs) (a : Adv M H H') : SmDs M H' vs := let ⟨d, h, z⟩ := x; ⟨d, h.adv a, z⟩
theorem SmD.sc (h : scV v = true) : SmD M H v := ⟨scD v, sc_is h, by rw [sc_sz]; decide, by rw [sc_dep]; decide⟩
theorem SmDs.nil : SmDs M H [] := ⟨[], .nil, by simp⟩
theorem SmDs.cons (x : SmD M H v) (y : SmDs M H vs) : SmDs M H (v :: vs) := by
  obtain ⟨d, h, z⟩ := x
  obtain ⟨ds, hs, zs⟩ := y
  refine ⟨d :: ds, .cons h hs, fun e he => ?_⟩
  rcases List.mem_cons.mp he with rfl | he
  · exact z
  · exact zs e he
theorem SmDs.nds {ns : List Nd} (h : IsDs M H (ns.map Nd.data) vs) : SmDs M H vs := ⟨_, h, fun d hd => by
  obtain ⟨n, _, rfl⟩ := List.mem_map.mp hd
  have := nd_sz n
  have := nd_dep n
  omega⟩
theorem SmDs.app (x : SmDs M H vs) (y : SmDs M H ws) : SmDs M H (vs ++ ws) := by
  obtain ⟨ds, h, z⟩ := x
  obtain ⟨es, hs, zs⟩ := y
  refine ⟨ds ++ es, h.app hs, fun e he => ?_⟩
  rcases List.mem_append.mp he with he | he
  · exact z e he
  · exact zs e he
theorem SmDs.get (x : SmDs M H vs) {i : Nat} (h : vs[i]? = some v) : SmD M H v := by
  obtain ⟨ds, hs, zs⟩ := x
  obtain ⟨d, hd, hi⟩ := hs.getV h
  exact ⟨d, hi, zs d (List.mem_of_getElem? hd)⟩
theorem SmDs.mem (x : SmDs M H vs) (h : v ∈ vs) : SmD M H v := let ⟨_, hi⟩ := List.getElem?_of_mem h; x.get hi
theorem sc_list : ∀ {xs : List V}, xs.all scV = true → IsDs M H (xs.map scD) xs
  | [], _ => .nil
  | x :: xs, h => by
    rw [List.all_cons, Bool.and_eq_true] at h
    exact .cons (sc_is h.1) (sc_list h.2)
theorem sc_szL : ∀ xs : List V, szL (xs.map scD) = xs.length
  | [] => szL_nil
  | x :: xs => by rw [List.map_cons, szL_cons, sc_szL xs, sc_sz, List.length_cons]; omega
theorem sc_depL : ∀ xs : List V, depL (xs.map scD) = 0
  | [] => depL_nil
  | x :: xs => by rw [List.map_cons, depL_cons, sc_depL xs, sc_dep]; rfl
/-- a new tuple of scalars -/
theorem sm_tup {Q : VK} {xs : List V} (hal : ∀ b ∈ M, H b ≠ none) (hx : xs.all scV = true) (hl : xs.length ≤ 9) (k : ∀ p H', SmD M H' (.ref p) → Adv [] H H' → (∀ b ∈ M, H' b ≠ none) → H' p = some (.tup xs) → Q (.ref p) H') :
    xs.length ≤ sizeLine ∧ ∀ p, H p = none → Q (.ref p) (upd H p (.tup xs)) :=
  ⟨by rw [sizeLine_eq]; omega, fun p np => by
    have a : Adv [] H (upd H p (.tup xs)) := Adv.new np
    exact k p _ ⟨.tuple (xs.map scD), Is.tup upd_same (not_mem_new hal np) (sc_list hx), by rw [sz_tup, sc_szL]; omega, by rw [dep_tup, sc_depL]; omega⟩ a (alloc_adv hal a (by simp)) upd_same⟩
end
/-! ### rows: tuples of keys -/
def kT (ks : List Key) : PyData := .tuple (ks.map keyDt)
def RwD (M : List Addr) (H : Hp) (v : V) : Prop := ∃ ks : List Key, ks.length ≤ 3 ∧ Is M H (kT ks) v
def RwDs (M : List Addr) (H : Hp) (vs : List V) : Prop := ∃ kss : List (List Key), IsDs M H (kss.map kT) vs ∧ ∀ ks ∈ kss, ks.length ≤ 3
section
variable {M N : List Addr} {H H' : Hp} {v : V} {vs ws : List V} {p : Addr}
theorem RwD.adv (x : RwD M H v) (a : Adv M H H') : RwD M H' v := let ⟨d, z, h⟩ := x; ⟨d, z, h.adv a⟩
theorem RwDs.adv (x : RwDs M H vs) (a : Adv M H H') : RwDs M H' vs := let ⟨d, h, z⟩ := x; ⟨d, h.adv a, z⟩
theorem RwDs.fresh (x : RwDs M H vs) (h : H p = none) : RwDs (p :: M) H vs := let ⟨d, y, z⟩ := x; ⟨d, y.fresh h, z⟩
theorem RwDs.less (x : RwDs M H vs) (h : ∀ b ∈ N, b ∈ M) : RwDs N H vs := let ⟨d, y, z⟩ := x; ⟨d, y.less h, z⟩
theorem RwDs.nil : RwDs M H [] := ⟨[], .nil, by simp⟩
theorem RwDs.cons (x : RwD M H v) (y : RwDs M H vs) : RwDs M H (v :: vs) := by
  obtain ⟨d, z, h⟩ := x
  obtain ⟨ds, hs, zs⟩ := y
  refine ⟨d :: ds, .cons h hs, fun e he => ?_⟩
  rcases List.mem_cons.mp he with rfl | he
  · exact z
  · exact zs e he
theorem RwDs.app (x : RwDs M H vs) (y : RwDs M H ws) : RwDs M H (vs ++ ws) := by
  obtain ⟨ds, h, z⟩ := x
  obtain ⟨es, hs, zs⟩ := y
  refine ⟨ds ++ es, by rw [List.map_append]; exact h.app hs, fun e he => ?_⟩
  rcases List.mem_append.mp he with he | he
  · exact z e he
  · exact zs e he
theorem RwDs.get (x : RwDs M H vs) {i : Nat} (h : vs[i]? = some v) : RwD M H v := by
  obtain ⟨ds, hs, zs⟩ := x
  obtain ⟨d, hd, hi⟩ := hs.getV h
  rw [List.getElem?_map, Option.map_eq_some_iff] at hd
  obtain ⟨ks, hk, rfl⟩ := hd
  exact ⟨ks, zs ks (List.mem_of_getElem? hk), hi⟩
theorem RwD.sm (x : RwD M H v) : SmD M H v := by
  obtain ⟨ks, z, h⟩ := x
  exact ⟨_, h, by unfold kT; rw [sz_tup, ks_sz]; omega, by unfold kT; rw [dep_tup, ks_dep]; omega⟩
theorem RwD.at_ (x : RwD M H v) : ∃ (a : Addr) (ks : List Key), v = .ref a ∧ Tp M H a (ks.map kV) ∧ ks.length ≤ 3 := by
  obtain ⟨ks, z, h⟩ := x
  obtain ⟨a, vs, rfl, ha, hs⟩ := h.tupE
  rw [ks_of _ _ hs] at ha
  exact ⟨a, ks, rfl, ha, z⟩
theorem RwDs.sm (x : RwDs M H vs) : SmDs M H vs := by
  obtain ⟨kss, h, z⟩ := x
  refine ⟨_, h, fun d hd => ?_⟩
  obtain ⟨ks, hk, rfl⟩ := List.mem_map.mp hd
  have := z ks hk
  unfold kT
  rw [sz_tup, ks_sz, dep_tup, ks_dep]
  omega
theorem RwDs.nds {ns : List Nd} (h : IsDs M H (ns.map Nd.data) vs) : RwDs M H vs := ⟨ns.map Nd.keys, by rw [List.map_map]; exact h, fun ks hk => by
  obtain ⟨n, _, rfl⟩ := List.mem_map.mp hk
  cases n <;> simp [Nd.keys]⟩
theorem rw_new {ks : List Key} (hal : ∀ b ∈ M, H b ≠ none) (np : H p = none) (hl : ks.length ≤ 3) : RwD M (upd H p (.tup (ks.map kV))) (.ref p) :=
  ⟨ks, hl, nd_data upd_same (not_mem_new hal np)⟩
theorem SmDs.take (x : SmDs M H vs) (i : Nat) : SmDs M H (vs.take i) := by
  obtain ⟨ds, h, z⟩ := x
  refine ⟨ds.take i, ?_, fun d hd => z d (List.mem_of_mem_take hd)⟩
  refine IsDs.of_get (by rw [List.length_take, List.length_take, h.len]) fun j d v h1 h2 => ?_
  rw [List.getElem?_take] at h1 h2
  split at h1
  · rename_i hj
    rw [if_pos hj] at h2
    obtain ⟨v', e, hv⟩ := h.get h1
    rw [h2] at e
    cases e
    exact hv
  · cases h1
theorem SmDs.drop (x : SmDs M H vs) (i : Nat) : SmDs M H (vs.drop i) := by
  obtain ⟨ds, h, z⟩ := x
  exact ⟨ds.drop i, h.drop i, fun d hd => z d (List.mem_of_mem_drop hd)⟩
theorem SmDs.cut (x : SmDs M H vs) (lo hi : Option Int) : SmDs M H (cutV vs lo hi) := by
  unfold cutV
  exact (x.drop _).take _
theorem cut_len (vs : List V) (lo hi : Option Int) : (cutV vs lo hi).length ≤ vs.length := by
  unfold cutV
  rw [List.length_take, List.length_drop]
  omega
theorem SmDs.fresh (x : SmDs M H vs) (h : H p = none) : SmDs (p :: M) H vs := let ⟨d, y, z⟩ := x; ⟨d, y.fresh h, z⟩
theorem SmDs.of_sc {xs : List V} (h : xs.all scV = true) : SmDs M H xs := by
  refine ⟨xs.map scD, sc_list h, fun d hd => ?_⟩
  obtain ⟨x, _, rfl⟩ := List.mem_map.mp hd
  rw [sc_sz, sc_dep]
  omega
theorem sm_lst {l : Addr} {ks : List Key} (h : H l = some (.lst (ks.map kV))) (hl : l ∉ M) (hz : ks.length ≤ 3) : SmD M H (.ref l) :=
  ⟨.list (ks.map keyDt), Is.lst h hl (ks_data ks), by rw [sz_lst, ks_sz]; omega, by rw [dep_lst, ks_dep]; omega⟩
end
theorem depL_of {k : Nat} : ∀ {ds : List PyData}, (∀ d ∈ ds, dep d ≤ k) → depL ds ≤ k := fun h => depL_le h
theorem SmDs.lst {M : List Addr} {H : Hp} {vs : List V} {l : Addr} (x : SmDs M H vs) (h : H l = some (.lst vs)) (hl : l ∉ M) (hz : vs.length ≤ 90000) : ∃ d, Is M H d (.ref l) ∧ sz d ≤ 1000000 ∧ dep d ≤ 4 := by
  obtain ⟨ds, hs, zs⟩ := x
  have := hs.len
  have h1 := szL_le (k := 10) (fun d hd => (zs d hd).1)
  have h2 := depL_le (k := 3) (fun d hd => (zs d hd).2)
  exact ⟨.list ds, Is.lst h hl hs, by rw [sz_lst]; omega, by rw [dep_lst]; omega⟩
end LL

set_option Elab.async false
set_option linter.all false
set_option maxRecDepth 100000
set_option maxHeartbeats 4000000
/-! set(list of ints), sorted of a set of ints, of any size below 4,095 -/
namespace LL
open PySem PySem.Spec PyProof.Rows L2
section
variable {P : Program} {w : World} {A : Around} {E : Value → Shared → Prop} {s : Shared}
set_option maxHeartbeats 3200000 in
theorem call_set_listI {l : Addr} {items : Array Value} (ns : List Int) {Q : Value → Shared → Prop} (hh : A.handled = none) (hl : s.heap.IsList l items) (hit : IntsAre items.toList ns) (hb : ns.length + 1 < scanBound)
    (h : ∀ (h' : Heap) (tk c : Nat), SetR w h' s.heap.objs.size (fun j => decide (j ∈ ns)) c → c ≤ ns.length → (∀ b o, s.heap.get? b = some o → h'.get? b = some o) → Q (.ref s.heap.objs.size) { s with heap := h', toks := tk }) :
    wpAny (model P w) A (call (.type "set") [.ref l]) Q E s := by
  have hisz : items.size = ns.length := by
    have q := IntsAre.length hit
    rw [Array.length_toList] at q
    exact q
  obtain ⟨c, tl, hmro⟩ := F.called_set.mro
  have hmade := F.called_set.made
  have hsub := F.called_set.sub
  refine wpAny_call (codeAny_of_tree ?_)
  show wpAny _ _ (callAny (.type "set") _) _ _ _
  refine wpAny_pure ⟨Code.quiet_builtin _ (by decide +kernel), codeAny_builtin F.entry_type_call ?_⟩
  rw [Around.under_plain (weight_type_call_type "set" [.ref l] []) rfl]
  have h1 := F.called_set.notType
  have h2 := F.called_set.canCreate
  have hct := F.typeCall_set_1 (.ref l)
  repeat (any_goals (first | assumption | wp_step))

  refine codeAny_mono (code_set_led1 (.ref l) (E := E) (Q₁ := fun obj s₁ => obj = .ref s.heap.objs.size ∧ s₁ = { s with heap := s.heap.push { cls := .type "set", dict := none, data := .set #[] 0 (.fresh 0 0 (!w.params.followText "set-order")) } }) ⟨rfl, rfl⟩) fun r s₁ hr => ?_
  cases r with
  | error e => exact hr
  | ok fl =>
    cases fl with
    | ret obj =>
      obtain ⟨rfl, rfl⟩ := hr
      have hS : (s.heap.push { cls := .type "set", dict := none, data := .set #[] 0 (.fresh 0 0 (!w.params.followText "set-order")) }).get? s.heap.objs.size = some { cls := .type "set", dict := none, data := .set #[] 0 (.fresh 0 0 (!w.params.followText "set-order")) } := Heap.get?_push_size _ rfl
      have hT : Shared.TypeIs { s with heap := s.heap.push { cls := .type "set", dict := none, data := .set #[] 0 (.fresh 0 0 (!w.params.followText "set-order")) } } (.ref s.heap.objs.size) "set" := ⟨_, hS, rfl⟩
      have hli := F.called_set.init.lookup
      have hbi := F.called_set.init.bind (.ref s.heap.objs.size)
      repeat (any_goals (first | assumption | wp_step))

      refine codeAny_mono (codeAny_call_builtin (R := wants (fun r s₂ => r = .none ∧ ∃ h' tk c, s₂ = { s with heap := h', toks := tk } ∧ SetR w h' s.heap.objs.size (fun j => decide (j ∈ ns)) c ∧ c ≤ ns.length ∧
          (∀ b o, s.heap.get? b = some o → h'.get? b = some o)) E) F.called_set.init.plain F.entry_set_init (check_set_init_1 hT ?_)) fun r₂ s₂ hr₂ => ?_
      · obtain ⟨ol, hol, hcl, nl, hdl⟩ := hl
        obtain ⟨ocls, odict, odata, oslots⟩ := ol
        simp only at hcl hdl
        subst hcl; subst hdl
        have hol' : (s.heap.push { cls := .type "set", dict := none, data := .set #[] 0 (.fresh 0 0 (!w.params.followText "set-order")) }).get? l = some { cls := .type "list", dict := odict, data := .seq items nl, slots := oslots } := Heap.get?_push_of_some _ hol
        have hsls := F.sub_list_set
        have hslf := F.sub_list_frozenset
        have hne : (Value.type "list" == Value.type "dict") = false := by decide
        have hl1 : (s.heap.push { cls := .type "set", dict := none, data := .set #[] 0 (.fresh 0 0 (!w.params.followText "set-order")) }).IsList l items := ⟨_, hol', rfl, nl, rfl⟩
        unfold Builtin.«set.__init__» noKeywords Builtin.Frozenset.updateFrom
        generalize hPI : pyIter = PI
        wp_walk
        subst hPI

        refine wpAny_pyIter_list hl1 ?_
        refine wpAny_bind (wpAny_runValue ?_)
        have hlS : l < s.heap.objs.size := Heap.lt_size hol
        have hh3 : A.in1.in1.in1.handled = none := by simp [hh]
        have hneI : l ≠ (s.heap.push { cls := .type "set", dict := none, data := .set #[] 0 (.fresh 0 0 (!w.params.followText "set-order")) }).objs.size := by
          rw [Heap.size_push]; exact Nat.ne_of_lt (Nat.lt_succ_of_lt hlS)
        have hSf : s.heap.objs.size ∉ [(s.heap.push { cls := .type "set", dict := none, data := .set #[] 0 (.fresh 0 0 (!w.params.followText "set-order")) }).objs.size, l] := by
          rw [Heap.size_push]; simp only [List.mem_cons, List.mem_singleton, List.not_mem_nil, or_false, not_or]
          exact ⟨Nat.ne_of_lt (Nat.lt_succ_self _), Nat.ne_of_gt hlS⟩
        have hval : ∀ (i : Nat) (v : Value), items[i]? = some v → ∃ k t, ns[i]? = some k ∧ v = .int k t := fun i v hv => by
          have hi : i < ns.length := by rw [← hisz]; exact (Array.getElem?_eq_some_iff.mp hv).1
          obtain ⟨t, e⟩ := PyProof.Rows.IntsAre.int_at hit i v (by rw [Array.getElem?_toList]; exact hv)
          refine ⟨ns[i], t, List.getElem?_eq_getElem hi, ?_⟩
          rw [e, List.getD_eq_getElem?_getD, List.getElem?_eq_getElem hi] <;> rfl
        refine set_update_ints ((Walks.list hh3 _ l hneI items).toS) s.heap.objs.size
          hSf ns hisz hb hval (items.size - 0) 0 _ (by omega) (Nat.zero_le _)
          ⟨⟨_, Heap.get?_push_size _ rfl, rfl, rfl⟩, (hl1.push _)⟩ ?hS0 ?hR
        case hS0 =>
          have hget : ((s.heap.push { cls := .type "set", dict := none, data := .set #[] 0 (.fresh 0 0 (!w.params.followText "set-order")) }).push { cls := .type "list_iterator", data := .fields #[.ref l, .int 0 0] }).get? s.heap.objs.size
              = some { cls := .type "set", dict := none, data := .set #[] 0 (.fresh 0 0 (!w.params.followText "set-order")) } := Heap.get?_push_of_some _ hS
          exact ⟨0, Nat.le_refl 0, setR_new_at hget⟩
        case hR =>
          intro s' c' hm hc' hS'
          obtain ⟨h', g2, d', tk', os'⟩ := s'
          have eg : g2 = s.gens := hm.gens
          have ed : d' = s.drawn := hm.drawn
          have eo : os' = s.os := hm.os
          subst eg; subst ed; subst eo
          show wpAny _ _ _ _ _ _
          refine wpAny_pure ?_
          show wpAny _ _ (ret Value.none) _ _ _
          rw [hisz] at hc'
          refine wpAny_pure ⟨rfl, h', tk', c', rfl, hS', hc', fun b o e => ?_⟩
          have hb0 : b < s.heap.objs.size := Heap.lt_size e
          have hb1 : b ≠ s.heap.objs.size := Nat.ne_of_lt hb0
          have hb2 : b ≠ (s.heap.push { cls := .type "set", dict := none, data := .set #[] 0 (.fresh 0 0 (!w.params.followText "set-order")) }).objs.size := by
            rw [Heap.size_push]; exact Nat.ne_of_lt (Nat.lt_succ_of_lt hb0)
          exact hm.heap b o (by simp only [List.mem_cons, List.mem_singleton, List.not_mem_nil, or_false, not_or]; exact ⟨hb1, hb2⟩) (Heap.get?_push_of_some _ (Heap.get?_push_of_some _ e))

      · cases r₂ with
        | error e => exact hr₂
        | ok fl₂ =>
          cases fl₂ with
          | ret r =>
            obtain ⟨rfl, h', tk, c', rfl, hS', hc', hk'⟩ := hr₂
            repeat (any_goals (first | assumption | wp_step))
            exact h _ _ _ hS' hc' hk'
          | _ => exact hr₂.elim
    | _ => exact hr.elim
theorem sorted_setB {a : Addr} {S : Int → Bool} {n : Nat} {Q : Value → Shared → Prop} (R : SetR w s.heap a S n) (hh : A.handled = none)
    (hQ : ∀ s' p (out : Array Value) (c : Nat) (ns : List Int), (∀ b o, s.heap.get? b = some o → s'.heap.get? b = some o) → s'.gens = s.gens → s'.os = s.os → s.heap.objs.size ≤ p →
      s'.heap.get? p = some (seqObj "list" out c) → IntsAre out.toList ns → ns.Pairwise (· < ·) → (∀ k, k ∈ ns ↔ S k = true) → ns.length = n → n < scanBound → Q (.ref p) s') :
    wpAny (model P w) A (call (.builtin "sorted") [.ref a]) Q E s := by
  obtain ⟨o, es, ep, t, ho, hex, hd, g, nd, hm, hb, hf, hn, hr, hl⟩ := R
  refine Calls.call_function_entry kind_sorted plain_sorted entry_sorted (args_sorted1 _) ?_
  unfold Builtin.«sorted»
  refine wpAny_bind (m := checkCount "sorted" 1 1 _) (wpAny_pure ?_)
  refine wpAny_bind (collect_set (A := A.in1) hh ⟨o, ho, hex.1, hd⟩ hf hb hr hl fun s1 vs k1 hz g1 o1 pm => ?_)
  have hvl : vs.length = n := by rw [pm.length_eq, List.length_map, Array.length_toList]; exact hn
  have hI : IntsAre vs (vs.map Builtin.Re.reRawOf) := ints_of vs fun v hv => by
    obtain ⟨e, he, q⟩ := List.mem_map.mp (pm.mem_iff.mp hv)
    obtain ⟨k, tk, h1, _⟩ := g e he
    exact ⟨k, tk, by rw [← q]; exact h1⟩
  have pk : (vs.map Builtin.Re.reRawOf).Perm (es.toList.map keyOf) := by
    have q := pm.map Builtin.Re.reRawOf
    rw [List.map_map] at q
    exact q
  have hnb : n < scanBound := by rw [← hn]; exact hb
  have hvz : vs.length ≤ sizeLine := by rw [hvl, sizeLine_eq]; unfold scanBound at hnb; omega
  refine wpAny_bind (wpAny_newList ?_ hvz)
  have hoL : (s1.heap.push (seqObj "list" vs.toArray 0)).get? s1.heap.objs.size = some (seqObj "list" vs.toArray 0) := Heap.get?_push_size _ rfl
  refine wpAny_bind (wpAny_holding (wpAny_call_entry slot_list_sort ⟨_, hoL, rfl⟩ entry_list_sort (SrtO.list_sort_ord SrtO.swo_int hoL hvz (fun h2 => SrtO.ints_sortable hI h2) fun out h1 h2 => ⟨_, rfl, ?_⟩) (args_list_sort _)))
  obtain ⟨a1, a2, a3⟩ := SrtO.ints_out hI h1 h2
  obtain ⟨c, hc⟩ := sortedHeap_at (vs := vs) (out := out.toArray) hoL
  have pn : (out.map SrtO.iv).Perm (es.toList.map keyOf) := a2.trans pk
  refine wpAny_pure ⟨_, rfl, hQ _ s1.heap.objs.size out.toArray c _ (fun b u e => ?_) g1 o1 hz hc (by simpa using a1) (lt_of_le_nodup _ a3 (pn.nodup_iff.mpr nd)) (fun k => by rw [pn.mem_iff, ← hm k]) ?_ hnb⟩
  · have q := k1 b u e
    have hlt := Heap.lt_size q
    show (sortedHeap (s1.heap.push (seqObj "list" vs.toArray 0)) s1.heap.objs.size vs out.toArray).get? b = some u
    rw [sortedHeap_old (Nat.ne_of_lt hlt) (by rw [size_push']; exact Nat.lt_succ_of_lt hlt)]
    exact Heap.get?_push_of_some _ q
  · rw [pn.length_eq, List.length_map, Array.length_toList]; exact hn
end
section
variable {X : Cx}
/-- set(xs), xs a list of ints -/
def rSetL (K : PySem.W.Frag) (w : World) : List V → Hp → VK → Prop := fun vs H Q => ∃ (a : Addr) (ns : List Int), vs = [V.ref a] ∧ (SqL K H a (ns.map V.int) ∨ SqT K H a (ns.map V.int)) ∧ ns.length ≤ 4000 ∧
  ∀ p n, n ≤ ns.length → H p = none → Q (.ref p) (upd H p (SetO w p (fun j => decide (j ∈ ns)) n))
theorem cr_setL (hc : X.calm = true) : CallR X (.type "set") (rSetL X.K X.w) := by
  intro pins s σ H vs us Q I r h
  obtain ⟨a, ns, rfl, hs, hz, q⟩ := h
  rw [Vals.ref1 r]
  rcases hs with hs | hs
  · obtain ⟨its, rv, hl, _⟩ := I.list hs
    refine call_set_listI ns (I.ok.hd hc) hl.isList (by simpa using rv.ints) (by unfold scanBound; omega) fun h' tk c R hc' k => ?_
    exact ⟨.ref _, upd H s.heap.objs.size (SetO X.w s.heap.objs.size (fun j => decide (j ∈ ns)) c), I.laid (t' := tk) k (Nat.le_refl _) (setO_new R), rfl, q _ _ hc' (I.hok.fresh (Nat.le_refl _))⟩
  · obtain ⟨its, rv, hl, _⟩ := I.tuple hs
    refine call_set_tupI ns (I.ok.hd hc) hl (by simpa using rv.ints) (by unfold scanBound; omega) fun h' tk c R hc' k => ?_
    exact ⟨.ref _, upd H s.heap.objs.size (SetO X.w s.heap.objs.size (fun j => decide (j ∈ ns)) c), I.laid (t' := tk) k (Nat.le_refl _) (setO_new R), rfl, q _ _ hc' (I.hok.fresh (Nat.le_refl _))⟩
/-- sorted(a set of ints) -/
def rSortS (w : World) : List V → Hp → VK → Prop := fun vs H Q => ∃ (a : Addr) (S : Int → Bool) (n : Nat), vs = [V.ref a] ∧ H a = some (SetO w a S n) ∧
  ∀ (ns : List Int) (p : Addr), ns.Pairwise (· < ·) → (∀ k : Int, k ∈ ns ↔ S k = true) → ns.length = n → H p = none → Q (.ref p) (upd H p (.lst (ns.map V.int)))
theorem cr_sortS (hc : X.calm = true) : CallR X (.builtin "sorted") (rSortS X.w) := by
  intro pins s σ H vs us Q I r h
  obtain ⟨a, S, n, rfl, ha, q⟩ := h
  have R := setO_get I ha
  rw [Vals.ref1 r]
  refine sorted_setB R (I.ok.hd hc) fun s' p out c ns k g o hp hg hi hs hm hl hb => ?_
  have hlen : (ns.map V.int).length ≤ sizeLine := by rw [List.length_map, hl, sizeLine_eq]; unfold scanBound at hb; omega
  have hn : H p = none := I.hok.fresh hp
  have J : Inv X pins σ (upd H p (.lst (ns.map V.int))) { s with heap := s'.heap, gens := s'.gens, drawn := s'.drawn, toks := s'.toks } :=
    I.call (ch := []) (Un.laid k hp hn) (I.hok.laid k hp ⟨hlen, out.toList, c, vals_of_ints hi, hg⟩) (by rw [g]; exact I.bare) (fun _ z => nomatch z)
  have e : s' = { s with heap := s'.heap, gens := s'.gens, drawn := s'.drawn, toks := s'.toks } := by
    cases s'
    cases s
    cases o
    rfl
  rw [e]
  exact ⟨.ref p, _, J, rfl, q ns p hs hm hl hn⟩
end
/-! ### the sorted list of the members -/
def insI (x : Int) : List Int → List Int
  | [] => [x]
  | y :: l => if x < y then x :: y :: l else if x = y then y :: l else y :: insI x l
/-- the ascending list of the members of xs -/
def srtU : List Int → List Int
  | [] => []
  | x :: l => insI x (srtU l)
theorem insI_mem {x k : Int} : ∀ {l : List Int}, k ∈ insI x l ↔ k = x ∨ k ∈ l
  | [] => by simp [insI]
  | y :: l => by
    unfold insI
    split
    · simp
    · split
      · rename_i h; subst h; simp
      · simp only [List.mem_cons, insI_mem (l := l)]
        constructor
        · rintro (h | h | h) <;> simp [h]
        · rintro (h | h | h) <;> simp [h]
theorem insI_asc {x : Int} : ∀ {l : List Int}, l.Pairwise (· < ·) → (insI x l).Pairwise (· < ·)
  | [], _ => by simp [insI]
  | y :: l, h => by
    obtain ⟨h1, h2⟩ := List.pairwise_cons.mp h
    unfold insI
    split
    · rename_i c
      exact List.pairwise_cons.mpr ⟨fun z hz => by
        rcases List.mem_cons.mp hz with e | e
        · rw [e]; exact c
        · have := h1 z e; omega, h⟩
    · split
      · exact h
      · refine List.pairwise_cons.mpr ⟨fun z hz => ?_, insI_asc h2⟩
        rcases insI_mem.mp hz with e | e
        · subst e; omega
        · exact h1 z e
theorem srtU_mem {k : Int} : ∀ {l : List Int}, k ∈ srtU l ↔ k ∈ l
  | [] => by simp [srtU]
  | y :: l => by
    unfold srtU
    rw [insI_mem, srtU_mem (l := l)]
    simp
theorem srtU_asc : ∀ l : List Int, (srtU l).Pairwise (· < ·)
  | [] => List.Pairwise.nil
  | y :: l => by
    unfold srtU
    exact insI_asc (srtU_asc l)
theorem asc_ext : ∀ {l m : List Int}, l.Pairwise (· < ·) → m.Pairwise (· < ·) → (∀ k, k ∈ l ↔ k ∈ m) → l = m
  | [], [], _, _, _ => rfl
  | [], y :: m, _, _, e => absurd ((e y).mpr List.mem_cons_self) (by simp)
  | x :: l, [], _, _, e => absurd ((e x).mp List.mem_cons_self) (by simp)
  | x :: l, y :: m, h1, h2, e => by
    obtain ⟨a1, a2⟩ := List.pairwise_cons.mp h1
    obtain ⟨b1, b2⟩ := List.pairwise_cons.mp h2
    have exy : x = y := by
      rcases List.mem_cons.mp ((e x).mp List.mem_cons_self) with c | c
      · exact c
      · rcases List.mem_cons.mp ((e y).mpr List.mem_cons_self) with d | d
        · exact d.symm
        · have := b1 x c; have := a1 y d; omega
    subst exy
    rw [asc_ext a2 b2 fun k => ?_]
    constructor
    · intro hk
      rcases List.mem_cons.mp ((e k).mp (List.mem_cons_of_mem _ hk)) with c | c
      · have := a1 k hk; omega
      · exact c
    · intro hk
      rcases List.mem_cons.mp ((e k).mpr (List.mem_cons_of_mem _ hk)) with c | c
      · have := b1 k hk; omega
      · exact c
theorem srtU_len : ∀ l : List Int, (srtU l).length ≤ l.length
  | [] => Nat.le_refl _
  | y :: l => by
    have ins : ∀ (x : Int) (m : List Int), (insI x m).length ≤ m.length + 1 := by
      intro x m
      induction m with
      | nil => simp [insI]
      | cons z m ih =>
        unfold insI
        split
        · simp
        · split
          · simp
          · simp only [List.length_cons]; omega
    unfold srtU
    have := ins y (srtU l)
    have := srtU_len l
    simp only [List.length_cons]
    omega
theorem srtU_of {l ns : List Int} (h : ns.Pairwise (· < ·)) (e : ∀ k, k ∈ ns ↔ decide (k ∈ l) = true) : ns = srtU l :=
  asc_ext h (srtU_asc l) fun k => by rw [e k, srtU_mem]; simp
end LL

set_option Elab.async false
set_option linter.all false
set_option maxRecDepth 100000
set_option maxHeartbeats 400000
/-! LClm: claims and their readings, in plain words -/
namespace LL
open PySem PySem.Spec PyProof.Rows L2
/-! ### rows -/
variable [KW]
def nD (rows : List Nat) : List PyData := rows.map fun r => .int (r : Nat)
def intD : PyData → Int
  | .int i => i
  | _ => 0
def risB (l : List Int) : Bool := (List.range (l.length - 1)).all fun i => decide (l.getD i 0 < l.getD (i + 1) 0)
/-- a tuple of rising rows below n -/
def rowsB (n : Int) : PyData → Bool
  | .tuple ds => ds.all (isNum 0 (n - 1)) && risB (ds.map intD)
  | _ => false
theorem nD_int (rows : List Nat) : (nD rows).map intD = rows.map fun r => ((r : Nat) : Int) := by
  unfold nD
  rw [List.map_map]
  rfl
theorem all_nat {n : Int} : ∀ {ds : List PyData}, ds.all (isNum 0 (n - 1)) = true → ∃ rows : List Nat, ds = nD rows ∧ ∀ r ∈ rows, (r : Int) < n
  | [], _ => ⟨[], rfl, by simp⟩
  | d :: ds, h => by
    rw [List.all_cons, Bool.and_eq_true] at h
    obtain ⟨i, rfl, h1, h2⟩ := num_nat h.1 (by decide)
    obtain ⟨rows, rfl, h3⟩ := all_nat h.2
    refine ⟨i :: rows, rfl, fun r hr => ?_⟩
    rcases List.mem_cons.mp hr with e | e
    · subst e; omega
    · exact h3 r e
theorem ris_pair : ∀ {l : List Int}, risB l = true → l.Pairwise (· < ·)
  | [], _ => List.Pairwise.nil
  | [x], _ => by simp
  | x :: y :: l, h => by
    have h' := List.all_eq_true.mp h
    have h0 : x < y := by
      have := h' 0 (List.mem_range.mpr (by simp))
      simpa using this
    have ht : risB (y :: l) = true := List.all_eq_true.mpr fun i hi => by
      have hi := List.mem_range.mp hi
      have := h' (i + 1) (List.mem_range.mpr (by simp only [List.length_cons] at *; omega))
      simpa using this
    have ih := ris_pair ht
    refine List.pairwise_cons.mpr ⟨fun z hz => ?_, ih⟩
    rcases List.mem_cons.mp hz with e | e
    · rw [e]; exact h0
    · have := (List.pairwise_cons.mp ih).1 z e
      omega
theorem rows_nat {n : Int} {d : PyData} (h : rowsB n d = true) : ∃ rows : List Nat, d = .tuple (nD rows) ∧ (∀ r ∈ rows, (r : Int) < n) ∧ (rows.map fun r => ((r : Nat) : Int)).Pairwise (· < ·) := by
  cases d with
  | tuple ds =>
    have h : (ds.all (isNum 0 (n - 1)) && risB (ds.map intD)) = true := h
    rw [Bool.and_eq_true] at h
    obtain ⟨rows, rfl, h2⟩ := all_nat h.1
    refine ⟨rows, rfl, h2, ?_⟩
    rw [← nD_int]
    exact ris_pair h.2
  | _ => cases h
def nVl (rows : List Nat) : List V := rows.map fun r => .int (r : Nat)
theorem nD_is {M : List Addr} {H : Hp} : ∀ rows : List Nat, IsDs M H (nD rows) (nVl rows)
  | [] => .nil
  | r :: rows => .cons Is.int (nD_is rows)
theorem nD_of {M : List Addr} {H : Hp} : ∀ {rows : List Nat} {vs : List V}, IsDs M H (nD rows) vs → vs = nVl rows
  | [], vs, h => by
    unfold nD at h
    rw [List.map_nil] at h
    unfold IsDs at h
    exact h
  | r :: rows, vs, h => by
    unfold nD at h
    rw [List.map_cons] at h
    unfold IsDs at h
    obtain ⟨v, ws, rfl, h1, h2⟩ := h
    cases h1.intE
    rw [nD_of (rows := rows) h2]
    rfl
theorem nD_sz (rows : List Nat) : szL (nD rows) = rows.length := by
  unfold nD
  induction rows with
  | nil => exact szL_nil
  | cons r rows ih => rw [List.map_cons, szL_cons, ih, List.length_cons, sz1_int]; omega
theorem nD_dep (rows : List Nat) : depL (nD rows) = 0 := by
  unfold nD
  induction rows with
  | nil => exact depL_nil
  | cons r rows ih => rw [List.map_cons, depL_cons, ih, dep1_int]; rfl
theorem cast_inj : ∀ {a b : List Nat}, (a.map fun r => ((r : Nat) : Int)) = (b.map fun r => ((r : Nat) : Int)) → a = b
  | [], [], _ => rfl
  | [], y :: b, h => by simp at h
  | x :: a, [], h => by simp at h
  | x :: a, y :: b, h => by
    rw [List.map_cons, List.map_cons] at h
    injection h with h1 h2
    rw [Int.ofNat.inj h1, cast_inj h2]
/-! ### ascending -/
def srtN (rows : List Nat) : List Nat := (srtU (rows.map fun r => ((r : Nat) : Int))).map Int.toNat
theorem srtN_cast (rows : List Nat) : (srtN rows).map (fun r => ((r : Nat) : Int)) = srtU (rows.map fun r => ((r : Nat) : Int)) := by
  unfold srtN
  rw [List.map_map]
  have : ∀ x ∈ srtU (rows.map fun r => ((r : Nat) : Int)), ((fun r => ((r : Nat) : Int)) ∘ Int.toNat) x = x := fun x hx => by
    obtain ⟨r, _, rfl⟩ := List.mem_map.mp (srtU_mem.mp hx)
    simp
  exact (List.map_congr_left this).trans (List.map_id _)
theorem srtN_mem {rows : List Nat} {k : Nat} : k ∈ srtN rows ↔ k ∈ rows := by
  have e := srtN_cast rows
  have cm : ∀ l : List Nat, k ∈ l ↔ ((k : Nat) : Int) ∈ l.map (fun r => ((r : Nat) : Int)) := fun l => by
    constructor
    · exact fun h => List.mem_map.mpr ⟨k, h, rfl⟩
    · intro h
      obtain ⟨a, ha, e⟩ := List.mem_map.mp h
      rw [← Int.ofNat.inj e]
      exact ha
  rw [cm (srtN rows), e, srtU_mem, ← cm]
theorem srtN_len (rows : List Nat) : (srtN rows).length ≤ rows.length := by
  unfold srtN
  rw [List.length_map]
  have := srtU_len (rows.map fun r => ((r : Nat) : Int))
  rw [List.length_map] at this
  exact this
theorem srtN_id {rows : List Nat} (h : (rows.map fun r => ((r : Nat) : Int)).Pairwise (· < ·)) : srtN rows = rows := by
  have e := srtN_cast rows
  rw [← srtU_of h (fun k => by simp)] at e
  exact cast_inj e
theorem nV_srt (rows : List Nat) : (srtU (rows.map fun r => ((r : Nat) : Int))).map V.int = nVl (srtN rows) := by
  rw [← srtN_cast]
  unfold nVl
  rw [List.map_map]
  rfl
/-! ### the readings -/
inductive R7
  | neg | den | box | dou | mk | ms | mg
  deriving DecidableEq
def R7.str : R7 → Str
  | .neg => "negative" | .den => "denied" | .box => "boxed" | .dou => "doubled" | .mk => "modal k" | .ms => "modal s4" | .mg => "modal gl"
def r7Of (x : Str) : Option R7 :=
  if x = "negative" then some .neg else if x = "denied" then some .den else if x = "boxed" then some .box else if x = "doubled" then some .dou else if x = "modal k" then some .mk else if x = "modal s4" then some .ms else if x = "modal gl" then some .mg else none
def isR7 : PyData → Option R7
  | .str x => r7Of x
  | _ => none
theorem r7_str {x : Str} {r : R7} (h : r7Of x = some r) : x = r.str := by
  unfold r7Of at h
  repeat' split at h
  all_goals first | (cases h; assumption) | cases h
theorem r7_of (r : R7) : r7Of r.str = some r := by cases r <;> decide +kernel
def R7.lo : R7 → Str
  | .box => "intuit" | .dou => "intuit" | _ => "classical"
def R7.hi : R7 → Str
  | .neg => "intuit" | .den => "intuit" | .box => "s4" | .dou => "gl" | .mk => "k" | .ms => "s4" | .mg => "gl"
/-- the rows denied, one after the other -/
def denyL : List Nd → List Nat → List Nat × List Nd
  | ns, [] => ([], ns)
  | ns, r :: rs => ((denyF ns r).1 :: (denyL (denyF ns r).2 rs).1, (denyL (denyF ns r).2 rs).2)
theorem denyL_snoc : ∀ (l : List Nat) (ns : List Nd) (r : Nat), denyL ns (l ++ [r]) = ((denyL ns l).1 ++ [(denyF (denyL ns l).2 r).1], (denyF (denyL ns l).2 r).2)
  | [], ns, r => rfl
  | x :: l, ns, r => by
    rw [List.cons_append]
    unfold denyL
    rw [denyL_snoc l]
    rfl
theorem denyL_len (l : List Nat) : ∀ ns : List Nd, (denyL ns l).2.length ≤ ns.length + 2 * l.length := by
  induction l with
  | nil => intro ns; exact Nat.le_add_right _ _
  | cons r l ih =>
    intro ns
    have := ih (denyF ns r).2
    have := denyF_len ns r
    show (denyL (denyF ns r).2 l).2.length ≤ _
    rw [List.length_cons]
    omega
theorem denyL_len1 (l : List Nat) : ∀ ns : List Nd, (denyL ns l).1.length = l.length := by
  induction l with
  | nil => intro ns; rfl
  | cons r l ih =>
    intro ns
    show (denyL (denyF ns r).2 l).1.length + 1 = l.length + 1
    rw [ih]
theorem denyL_pre (l : List Nat) : ∀ ns : List Nd, ns <+: (denyL ns l).2 := by
  induction l with
  | nil => intro ns; exact List.prefix_rfl
  | cons r l ih => intro ns; exact (denyF_pre ns r).trans (ih _)
theorem denyL_ok {bx : Bool} (l : List Nat) : ∀ ns : List Nd, okSheet bx ns → (∀ r ∈ l, r < ns.length) → okSheet bx (denyL ns l).2 ∧ ∀ r ∈ (denyL ns l).1, r < (denyL ns l).2.length := by
  induction l with
  | nil => intro ns ok _; exact ⟨ok, fun r hr => nomatch hr⟩
  | cons r l ih =>
    intro ns ok h
    obtain ⟨o1, l1⟩ := denyF_ok ok (h r List.mem_cons_self)
    have hp := (denyF_pre ns r).length_le
    obtain ⟨o2, l2⟩ := ih (denyF ns r).2 o1 (fun q hq => by have := h q (List.mem_cons_of_mem _ hq); omega)
    refine ⟨o2, fun q hq => ?_⟩
    rcases List.mem_cons.mp hq with e | e
    · subst e
      have := (denyL_pre l (denyF ns r).2).length_le
      show (denyF ns r).1 < (denyL (denyF ns r).2 l).2.length
      omega
    · exact l2 q e
/-- rows grown by a reading -/
def growF (w : W3) (ns : List Nd) (rows : List Nat) : List Nd × (Nat → Nat) := readF w ns (belowF ns rows) ns (fun _ => 0)
def newC (r : R7) (ns : List Nd) (rows : List Nat) : List Nd × (Nat → Nat) :=
  match r with
  | .neg => growF .neg ns rows
  | .box => growF .box ns rows
  | .dou => ((growF .dou (growF .box ns rows).1 (rows.map (growF .box ns rows).2)).1, fun i => (growF .dou (growF .box ns rows).1 (rows.map (growF .box ns rows).2)).2 ((growF .box ns rows).2 i))
  | _ => (ns, fun i => i)
def R7.denies : R7 → Bool
  | .neg => true
  | .den => true
  | _ => false
/-- the read claim -/
def readC (r : R7) (ns : List Nd) (le ri : List Nat) : List Nd × List Nat × List Nat :=
  if r.denies then ((denyL (newC r ns (le ++ ri)).1 (ri.map (newC r ns (le ++ ri)).2)).2, srtN (le.map (newC r ns (le ++ ri)).2 ++ (denyL (newC r ns (le ++ ri)).1 (ri.map (newC r ns (le ++ ri)).2)).1), [])
  else ((newC r ns (le ++ ri)).1, srtN (le.map (newC r ns (le ++ ri)).2), srtN (ri.map (newC r ns (le ++ ri)).2))
/-! ### claims as data -/
def clD (ns : List Nd) (l r : List Nat) : PyData := .tuple [.list (ns.map Nd.data), .tuple [], .tuple (nD l), .tuple (nD r)]
def emptyT : PyData → Bool
  | .tuple [] => true
  | _ => false
/-- the first error of a claim -/
def claimW : PyData → Option (Str × PyData)
  | .tuple [sh, th, le, ri] =>
    match wrongD 5000 false sh with
    | some i => some ("BadSheet", .int i)
    | none => if (rowsB (lenD sh) th && emptyT th) = false then some ("BadClaim", .str "theory") else if rowsB (lenD sh) le = false then some ("BadClaim", .str "left") else if rowsB (lenD sh) ri = false then some ("BadClaim", .str "right") else none
  | _ => some ("BadClaim", .str "claim")
/-- a right claim -/
structure RtC (ns : List Nd) (l r : List Nat) : Prop where
  ok : okSheet false ns
  hl : ns.length ≤ 5000
  bl : ∀ i ∈ l, i < ns.length
  br : ∀ i ∈ r, i < ns.length
  al : (l.map fun r => ((r : Nat) : Int)).Pairwise (· < ·)
  ar : (r.map fun r => ((r : Nat) : Int)).Pairwise (· < ·)
theorem claimW_none {d : PyData} (h : claimW d = none) : ∃ ns l r, d = clD ns l r ∧ RtC ns l r := by
  unfold claimW at h
  split at h
  · rename_i sh th le ri
    split at h
    · cases h
    · rename_i e
      obtain ⟨ns, rfl, ok, hl⟩ := wrongD_none (by decide) e
      have el : lenD (.list (ns.map Nd.data)) = ns.length := by show (ns.map Nd.data).length = ns.length; rw [List.length_map]
      rw [el] at h
      split at h
      · cases h
      · rename_i h1
        split at h
        · cases h
        · rename_i h2
          split at h
          · cases h
          · rename_i h3
            have h1 : (rowsB (ns.length : Nat) th && emptyT th) = true := by
              cases c : (rowsB (ns.length : Nat) th && emptyT th) with
              | true => rfl
              | false => exact absurd c h1
            have h2 : rowsB (ns.length : Nat) le = true := by simpa using h2
            have h3 : rowsB (ns.length : Nat) ri = true := by simpa using h3
            rw [Bool.and_eq_true] at h1
            have e2 : th = .tuple [] := by
              have := h1.2
              unfold emptyT at this
              split at this
              · rfl
              · cases this
            subst e2
            obtain ⟨l, rfl, b1, a1⟩ := rows_nat h2
            obtain ⟨r, rfl, b2, a2⟩ := rows_nat h3
            exact ⟨ns, l, r, rfl, ok, by omega, fun i hi => by have := b1 i hi; omega, fun i hi => by have := b2 i hi; omega, a1, a2⟩
  · cases h
/-- what is due -/
inductive DueC (rd cl : PyData) : PyData → Prop
  | value (h : isR7 rd = none) : DueC rd cl (.tuple [.str "BadValue", .str "reading"])
  | wrong (r : R7) (h : isR7 rd = some r) (c : Str) (x : PyData) (h2 : claimW cl = some (c, x)) : DueC rd cl (.tuple [.str c, x])
  | told (r : R7) (h : isR7 rd = some r) (ns : List Nd) (le ri : List Nat) (hc : cl = clD ns le ri) (h2 : claimW cl = none) (ok : RtC ns le ri) : DueC rd cl (.tuple [.str "told", clD (readC r ns le ri).1 (readC r ns le ri).2.1 (readC r ns le ri).2.2])
theorem dueC_ex (rd cl : PyData) : ∃ e, DueC rd cl e := by
  cases h : isR7 rd with
  | none => exact ⟨_, .value h⟩
  | some r =>
    cases h2 : claimW cl with
    | some p => obtain ⟨c, x⟩ := p; exact ⟨_, .wrong r h c x h2⟩
    | none =>
      obtain ⟨ns, l, ri, e, ok⟩ := claimW_none h2
      exact ⟨_, .told r h ns l ri e h2 ok⟩
theorem clD_inj {ns ms : List Nd} {l r k m : List Nat} (h : clD ns l r = clD ms k m) : ns = ms ∧ l = k ∧ r = m := by
  unfold clD at h
  injection h with h
  injection h with h1 h
  injection h1 with h1
  injection h with h2 h
  injection h with h3 h
  injection h3 with h3
  injection h with h4 h
  injection h4 with h4
  have inj : ∀ {a b : List Nat}, nD a = nD b → a = b := fun {a b} e => by
    have := congrArg (List.map intD) e
    rw [nD_int, nD_int] at this
    exact cast_inj this
  exact ⟨nds_inj h1, inj h3, inj h4⟩
end LL

set_option Elab.async false
set_option linter.all false
set_option maxRecDepth 100000
set_option maxHeartbeats 400000
/-! LCmp: comprehensions over range(lo, hi) -/
namespace LL
open PySem PySem.Spec PyProof.Rows L2
section
variable [KW]
variable {K : PySem.W.Frag} {a D : Addr} {xs : List V} {g : TG} {te : TE} {vs : List Nat} {σ : L2.St} {H1 : Hp} {Qd : Hp → Prop}
theorem lc_mapRl {lo : Int} {n : Nat} (ys : Nat → V) (hD : H1 D = none) (hz : n ≤ 1000000)
    (hs : ∀ (i : Nat) (H : Hp) (acc : List V) (R : V → Hp → Prop), i < n → Adv [] H1 H → H D = some (.lst acc) → (∀ H4, H4 D = some (.lst acc) → Adv [] H1 H4 → R (ys i) H4) → g (.int (lo + (i : Nat))) (wipe σ vs) H fun σ2 H2 => wipe σ2 vs = wipe σ vs ∧ te σ2 H2 R)
    (hd : ∀ H, Adv [] H1 H → H D = some (.lst ((List.range n).map ys)) → Qd H) :
    ∃ W : Nat → Nat → Hp → Prop, (∃ m, W 0 m (upd H1 D (.lst []))) ∧ ∀ i m H, W i m H →
      ((Itr lo n).stop i H ∧ Qd H) ∨ ((Itr lo n).go i H ∧ ∃ Nx : Hp → Prop, (∀ H', Nx H' → ∃ m', m' < m ∧ W (i + 1) m' H') ∧ ∀ x H', (Itr lo n).yld i H x H' → g x (wipe σ vs) H' fun σ2 H2 => wipe σ2 vs = wipe σ vs ∧ tYes σ2 H2 fun b H3 =>
        if b = true then te σ2 H3 fun y H4 => ∃ acc, H4 D = some (.lst acc) ∧ acc.length < sizeLine ∧ Nx (upd H4 D (.lst (acc ++ [y]))) else Nx H3) := by
  refine lc_range (lo := lo) (n := n) (tt := tYes) (fun i H => Adv [] H1 H ∧ H D = some (.lst ((List.range i).map ys))) ⟨Adv.new hD, upd_same⟩ (fun i H hi p => ?_) (fun H p => hd H p.1 p.2)
  refine hs i H _ (fun y H4 => ∃ acc, H4 D = some (.lst acc) ∧ acc.length < sizeLine ∧ Adv [] H1 (upd H4 D (.lst (acc ++ [y]))) ∧ (upd H4 D (.lst (acc ++ [y]))) D = some (.lst ((List.range (i + 1)).map ys))) hi p.1 p.2 (fun H4 e4 a4 => ⟨_, e4, ?_, Adv.mut a4 hD, ?_⟩)
  · rw [List.length_map, List.length_range, sizeLine_eq]
    omega
  · rw [upd_same, range_map_succ]
theorem lc_filtRl {lo : Int} {n : Nat} {tt : TT} (ys : Nat → V) (c : Nat → Bool) (hD : H1 D = none) (hz : n ≤ 1000000)
    (hs : ∀ (i : Nat) (H : Hp) (acc : List V) (R : V → Hp → Prop) (R0 : Hp → Prop), i < n → Adv [] H1 H → H D = some (.lst acc) → (c i = true → ∀ H4, H4 D = some (.lst acc) → Adv [] H1 H4 → R (ys i) H4) →
      (c i = false → ∀ H4, H4 D = some (.lst acc) → Adv [] H1 H4 → R0 H4) → g (.int (lo + (i : Nat))) (wipe σ vs) H fun σ2 H2 => wipe σ2 vs = wipe σ vs ∧ tt σ2 H2 fun b H3 => if b = true then te σ2 H3 R else R0 H3)
    (hd : ∀ H, Adv [] H1 H → H D = some (.lst (((List.range n).filter c).map ys)) → Qd H) :
    ∃ W : Nat → Nat → Hp → Prop, (∃ m, W 0 m (upd H1 D (.lst []))) ∧ ∀ i m H, W i m H →
      ((Itr lo n).stop i H ∧ Qd H) ∨ ((Itr lo n).go i H ∧ ∃ Nx : Hp → Prop, (∀ H', Nx H' → ∃ m', m' < m ∧ W (i + 1) m' H') ∧ ∀ x H', (Itr lo n).yld i H x H' → g x (wipe σ vs) H' fun σ2 H2 => wipe σ2 vs = wipe σ vs ∧ tt σ2 H2 fun b H3 =>
        if b = true then te σ2 H3 fun y H4 => ∃ acc, H4 D = some (.lst acc) ∧ acc.length < sizeLine ∧ Nx (upd H4 D (.lst (acc ++ [y]))) else Nx H3) := by
  refine lc_range (lo := lo) (n := n) (tt := tt) (fun i H => Adv [] H1 H ∧ H D = some (.lst (((List.range i).filter c).map ys))) ⟨Adv.new hD, upd_same⟩ (fun i H hi p => ?_) (fun H p => hd H p.1 p.2)
  refine hs i H _ (fun y H4 => ∃ acc, H4 D = some (.lst acc) ∧ acc.length < sizeLine ∧ Adv [] H1 (upd H4 D (.lst (acc ++ [y]))) ∧ (upd H4 D (.lst (acc ++ [y]))) D = some (.lst (((List.range (i + 1)).filter c).map ys)))
    (fun H3 => Adv [] H1 H3 ∧ H3 D = some (.lst (((List.range (i + 1)).filter c).map ys))) hi p.1 p.2 (fun hc H4 e4 a4 => ⟨_, e4, ?_, Adv.mut a4 hD, ?_⟩) (fun hc H4 e4 a4 => ⟨a4, ?_⟩)
  · have h1 := List.length_filter_le c (List.range i)
    rw [List.length_range] at h1
    rw [List.length_map, sizeLine_eq]
    omega
  · rw [upd_same, range_filt_succ, if_pos hc]
  · rw [e4, range_filt_succ, if_neg (by rw [hc]; decide), List.append_nil]
end
theorem filt0 {n : Nat} (c : Nat → Bool) (ys : Nat → V) : decide (V.int ((((List.range n).filter c).map ys).length : Nat) = V.int 0) = (List.range n).all fun i => !c i := by
  rw [List.length_map]
  cases e : (List.range n).all fun i => !c i with
  | true =>
    have : (List.range n).filter c = [] := by
      rw [List.filter_eq_nil_iff]
      intro i hi
      have := List.all_eq_true.mp e i hi
      simpa using this
    rw [this]
    rfl
  | false =>
    apply decide_eq_false
    intro z
    have z := V.int.inj z
    have z : ((List.range n).filter c).length = 0 := by omega
    have z := List.length_eq_zero_iff.mp z
    rw [List.filter_eq_nil_iff] at z
    have : (List.range n).all (fun i => !c i) = true := List.all_eq_true.mpr fun i hi => by
      have := z i hi
      simpa using this
    rw [e] at this
    cases this
end LL

set_option Elab.async false
set_option linter.all false
set_option maxRecDepth 100000
set_option maxHeartbeats 400000
/-! LSrt: sorted(a list of tuples of ints, none of them empty), of any length -/
namespace LL
open PySem PySem.Spec PyProof.Rows L2
def ltL : List Int → List Int → Bool
  | [], [] => false
  | [], _ :: _ => true
  | _ :: _, [] => false
  | x :: xs, y :: ys => if x = y then ltL xs ys else decide (x < y)
theorem ltL_irr : ∀ x : List Int, ltL x x = false
  | [] => rfl
  | x :: xs => by
    unfold ltL
    rw [if_pos rfl]
    exact ltL_irr xs
theorem ltL_asym : ∀ x y : List Int, ltL x y = true → ltL y x = false
  | [], [], h => by cases h
  | [], _ :: _, _ => rfl
  | _ :: _, [], h => by cases h
  | x :: xs, y :: ys, h => by
    unfold ltL at h ⊢
    by_cases e : x = y
    · rw [if_pos e] at h
      rw [if_pos e.symm]
      exact ltL_asym xs ys h
    · rw [if_neg e] at h
      rw [if_neg fun z => e z.symm]
      have := of_decide_eq_true h
      exact decide_eq_false (by omega)
theorem ltL_tr : ∀ x y z : List Int, ltL y x = false → ltL z y = false → ltL z x = false
  | [], [], [], _, _ => rfl
  | [], [], _ :: _, _, _ => rfl
  | [], y :: ys, [], _, h => by cases h
  | [], _ :: _, _ :: _, _, _ => rfl
  | x :: xs, [], _, h, _ => by cases h
  | x :: xs, y :: ys, [], _, h => by cases h
  | x :: xs, y :: ys, z :: zs, h1, h2 => by
    unfold ltL at h1 h2 ⊢
    by_cases e1 : y = x
    · subst e1
      rw [if_pos rfl] at h1
      by_cases e2 : z = y
      · subst e2
        rw [if_pos rfl] at h2 ⊢
        exact ltL_tr xs ys zs h1 h2
      · rw [if_neg e2] at h2 ⊢
        exact h2
    · rw [if_neg e1] at h1
      have l1 := of_decide_eq_false h1
      by_cases e2 : z = y
      · subst e2
        rw [if_neg e1]
        exact h1
      · rw [if_neg e2] at h2
        have l2 := of_decide_eq_false h2
        rw [if_neg (by omega)]
        exact decide_eq_false (by omega)
theorem ltL_tot : ∀ x y : List Int, ltL x y = false → ltL y x = false → x = y
  | [], [], _, _ => rfl
  | [], _ :: _, h, _ => by cases h
  | _ :: _, [], _, h => by cases h
  | x :: xs, y :: ys, h1, h2 => by
    unfold ltL at h1 h2
    by_cases e : x = y
    · subst e
      rw [if_pos rfl] at h1 h2
      rw [ltL_tot xs ys h1 h2]
    · rw [if_neg e] at h1
      rw [if_neg fun z => e z.symm] at h2
      have := of_decide_eq_false h1
      have := of_decide_eq_false h2
      omega
theorem swo_ltL {α : Type} (k : α → List Int) : SrtO.Swo fun v u => ltL (k v) (k u) := ⟨fun x y h => ltL_asym _ _ h, fun x y z h1 h2 => ltL_tr _ _ _ h1 h2⟩
/-- two ascending lists of the same items are the same -/
theorem srtL_ext {l m : List (List Int)} (h1 : l.Pairwise fun x y => ltL y x = false) (h2 : m.Pairwise fun x y => ltL y x = false) (p : l.Perm m) : l = m :=
  p.eq_of_pairwise (le := fun x y => ltL y x = false) (fun x y _ _ a b => ltL_tot x y b a) h1 h2
section
variable {prog : Program} {w : World} {A : Around} {s : Shared}
/-- a tuple of these ints -/
def TupI (h : Heap) (v : Value) (ns : List Int) : Prop := ∃ a o its n, v = Value.ref a ∧ h.get? a = some o ∧ o.cls = .type "tuple" ∧ o.data = .seq its n ∧ IntsAre its.toList ns
theorem TupI.keeps {h h' : Heap} {v : Value} {ns : List Int} (x : TupI h v ns) (k : ∀ b o, h.get? b = some o → o.cls = .type "tuple" → h'.get? b = some o) : TupI h' v ns := by
  obtain ⟨a, o, its, n, e, ho, hc, hd, hi⟩ := x
  exact ⟨a, o, its, n, e, k a o ho hc, hc, hd, hi⟩
theorem kat_ints {b : Bool} {Q : Bool → Shared → Prop} : ∀ {xs ys : List Value} {ns ms : List Int} (i : Nat), IntsAre xs ns → IntsAre ys ms → Q (ltL ns ms) s →
    PySem.W.KatLex prog w A b (decide (xs.length < ys.length)) Q (xs.zip ys) i s
  | _, _, _, _, i, .nil, .nil, h => PySem.W.kat_nil h
  | _, _, _, _, i, .nil, .cons n t r, h => PySem.W.kat_nil h
  | _, _, _, _, i, .cons n t r, .nil, h => PySem.W.kat_nil h
  | _, _, _, _, i, .cons n t (vs := xs) (ns := ns) r, .cons m u (vs := ys) (ns := ms) r2, h => by
    have el : decide ((Value.int n t :: xs).length < (Value.int m u :: ys).length) = decide (xs.length < ys.length) := by
      rw [List.length_cons, List.length_cons]
      exact decide_eq_decide.mpr ⟨fun h => by omega, fun h => by omega⟩
    rw [el]
    show PySem.W.KatLex prog w A b _ Q ((Value.int n t, Value.int m u) :: xs.zip ys) i s
    refine PySem.W.kat_cons (SeqAt.EqAt.int_int n t m u prog w _ _ ?_)
    have hl : ltL (n :: ns) (m :: ms) = if n = m then ltL ns ms else decide (n < m) := by rw [ltL]
    rw [hl] at h
    refine PySem.W.kat_go (fun e1 => ?_) (fun e1 => ?_)
    · have ex : n = m := by simpa using e1
      rw [if_pos ex] at h
      exact PySem.W.kat_yes (kat_ints (i + 1) r r2 h)
    · have ex : ¬ n = m := by simpa using e1
      rw [if_neg ex] at h
      refine PySem.W.kat_no ?_
      cases (b && i == 0) with
      | true => exact oneLt_int h
      | false => exact PySem.W.kat_one _ _ (PyProof.Rows.lt_int (Q := PySem.W.BoolBack Q) h)
theorem tup_cmp {vs : List Value} {k : Value → List Int} (hp : ∀ v ∈ vs, TupI s.heap v (k v)) : SrtO.Cmp prog w A s (tuples' true) (fun p => p.1 ∈ vs) (SrtO.lt2 fun v u => ltL (k v) (k u)) := by
  intro p q hm hm'
  have h1 := hp _ hm
  have h2 := hp _ hm'
  show wpAny (model prog w) A (keyLt' (tuples' true) p.1 q.1) (fun r s' => s' = s ∧ r = ltL (k p.1) (k q.1)) (fun _ _ => False) s
  obtain ⟨a, o, its, n, e, ho, hc, hd, hi⟩ := h1
  obtain ⟨a', o', its', n', e', ho', hc', hd', hi'⟩ := h2
  rw [e] at hi ⊢
  rw [e'] at hi' ⊢
  refine PySem.W.kat_lt ho hd ho' hd' ?_
  have := kat_ints (prog := prog) (w := w) (A := A) (s := s) (b := true) (Q := fun r s' => s' = s ∧ r = ltL (k (.ref a)) (k (.ref a'))) 0 hi hi' ⟨rfl, rfl⟩
  rw [Array.length_toList, Array.length_toList] at this
  exact this
theorem firsts_tup {h : Heap} : ∀ {vs : List Value}, (∀ v ∈ vs, ∃ x ns, TupI h v (x :: ns)) → ∃ fs : List Value, PySem.W.KatTups h vs fs ∧ fs.length = vs.length ∧ ∀ f ∈ fs, ∃ x t, f = Value.int x t
  | [], _ => ⟨[], PySem.W.KatTups.nil, rfl, fun _ hm => by simp at hm⟩
  | v :: vs, hp => by
    obtain ⟨fs, h1, h2, h3⟩ := firsts_tup (vs := vs) fun v' hm => hp v' (List.mem_cons_of_mem _ hm)
    obtain ⟨x, ns, a, o, its, n, e, ho, hc, hd, hi⟩ := hp v List.mem_cons_self
    subst e
    obtain ⟨its⟩ := its
    cases hi with
    | cons _ t r =>
      rename_i us
      refine ⟨.int x t :: fs, PySem.W.KatTups.cons ho hc hd (by simp) h1, by rw [List.length_cons, List.length_cons, h2], fun f hm => ?_⟩
      rcases List.mem_cons.mp hm with rfl | hm
      · exact ⟨x, t, rfl⟩
      · exact h3 f hm
theorem tup_sortable {a : Addr} {vs : List Value} {k : Value → List Int} (h0 : 0 < vs.length) (hp : ∀ v ∈ vs, TupI s.heap v (k v)) (hk : ∀ v ∈ vs, k v ≠ []) (ha : ∀ o, s.heap.get? a = some o → o.cls ≠ .type "tuple") :
    SrtO.SortableO prog w A s a vs fun v u => ltL (k v) (k u) := by
  intro h' keep
  have hp' : ∀ v ∈ vs, TupI h' v (k v) := fun v hm => (hp v hm).keeps fun b o e c => keep b o (fun z => by subst z; exact ha o e c) e
  obtain ⟨fs, h1, h2, h3⟩ := firsts_tup (h := h') (vs := vs) fun v hm => by
    have := hp' v hm
    cases q : k v with
    | nil => exact absurd q (hk v hm)
    | cons x ns => rw [q] at this; exact ⟨x, ns, this⟩
  refine ⟨tuples' true, fun Q E hq => ?_, tup_cmp hp'⟩
  refine PySem.W.kat_kind (T := .type "int") h1 (by omega) (fun f hm => ?_) (by rfl) ?_
  · obtain ⟨x, t, rfl⟩ := h3 f hm
    exact PySem.W.Looks.now
  · have e : (Value.type "int" != Value.type "tuple") = true := by first | decide +kernel | rfl | decide
    rw [e]
    exact hq
end
/-- sorted(xs), tuples of ints that are not empty (an only one may be) -/
def rSortT : List V → Hp → VK → Prop := fun vs H Q => ∃ (a : Addr) (ys : List V) (k : V → List Int), vs = [V.ref a] ∧ H a = some (.lst ys) ∧ (∀ y ∈ ys, ∃ t, y = V.ref t ∧ H t = some (.tup ((k y).map V.int))) ∧ (2 ≤ ys.length → ∀ y ∈ ys, k y ≠ []) ∧
  ∀ zs p, zs.Perm ys → zs.Pairwise (fun x y => ltL (k y) (k x) = false) → H p = none → Q (.ref p) (upd H p (.lst zs))
theorem cr_sortT {X : Cx} : CallR X (.builtin "sorted") rSortT := by
  intro pins s σ H vs us Q I r h
  obtain ⟨a, ys, k, rfl, ha, hx, hk, q⟩ := h
  rw [Vals.ref1 r]
  obtain ⟨hz, its, n, rv, hob⟩ := I.hok a _ ha
  obtain ⟨e1, e2⟩ := refs_back rv fun x m => by
    obtain ⟨t, e, _⟩ := hx x m
    exact ⟨t, e⟩
  have hp : ∀ v ∈ its, TupI s.heap v (k (backV v)) := fun v hv => by
    obtain ⟨t, rfl⟩ := e2 v hv
    have hm : V.ref t ∈ ys := by rw [e1]; exact List.mem_map.mpr ⟨_, hv, rfl⟩
    obtain ⟨t', e, ht⟩ := hx _ hm
    cases e
    obtain ⟨_, its2, r2, o, ho, hc, n, hd⟩ := I.hok _ _ ht
    exact ⟨t, o, its2.toArray, n, rfl, ho, hc, hd, show IntsAre its2.toArray.toList (k (.ref t)) by
      rw [List.toList_toArray]
      exact Vals.ints r2⟩
  have hl : ys.length = its.length := rv.length
  refine SrtO.sorted_ord (swo_ltL fun u => k (backV u)) ⟨_, hob, rfl, n, rfl⟩ (by rw [← hl]; exact hz) (fun h2 h₁ a' ha' kk => ?_) fun out h1 h2 => ?_
  · refine tup_sortable (s := { s with heap := h₁ }) (by omega) (fun v hm => (hp v hm).keeps fun b o e _ => (kk b o e).2) (fun v hm => ?_) fun o e => ?_
    · obtain ⟨t, rfl⟩ := e2 v hm
      exact hk (by omega) _ (by rw [e1]; exact List.mem_map.mpr ⟨_, hm, rfl⟩)
    · have e' : some o = some (seqObj "list" its.toArray 0) := e.symm.trans ha'
      cases e'
      intro c
      exact absurd (Value.type.inj c) (by decide)
  · have h3 : ∀ u ∈ out, ∃ a, u = Value.ref a := fun u hu => e2 u (h2.perm.mem_iff.mp hu)
    obtain ⟨ep, he'⟩ := PyProof.Rows.sortedAll_at s.heap its out.toArray
    have pm : (out.map backV).Perm ys := by
      rw [e1]
      exact h2.perm.map backV
    have hlen : (out.map backV).length ≤ sizeLine := by
      rw [pm.length_eq]
      exact hz
    have pw : (out.map backV).Pairwise (fun x y => ltL (k y) (k x) = false) := List.pairwise_map.mpr h1
    exact ⟨.ref _, upd H (s.heap.objs.size + 1) (.lst (out.map backV)), I.laid (t' := s.toks) (fun _ _ => PyProof.Rows.sortedAll_old) (Nat.le_succ _) ⟨hlen, out, ep, vals_back h3, he'⟩, rfl, q _ _ pm pw (I.hok.fresh (Nat.le_succ _))⟩
end LL

set_option Elab.async false
set_option linter.all false
set_option maxRecDepth 100000
set_option maxHeartbeats 400000
/-! LTr: sets of numbers as bits; the least sets that cross each of some sets -/
namespace LL
open PySem PySem.Spec PyProof.Rows L2
def Sub (x y : Nat) : Prop := x &&& y = x
theorem Sub.iff {x y : Nat} : Sub x y ↔ ∀ i, x.testBit i = true → y.testBit i = true := by
  unfold Sub
  constructor
  · intro h i hx
    rw [← h, Nat.testBit_and, Bool.and_eq_true] at hx
    exact hx.2
  · intro h
    apply Nat.eq_of_testBit_eq
    intro i
    rw [Nat.testBit_and]
    cases e : x.testBit i with
    | false => rfl
    | true => rw [h i e]; rfl
theorem Sub.le {x y : Nat} (h : Sub x y) : x ≤ y := by
  have := Nat.and_le_right (n := x) (m := y)
  rw [h] at this
  exact this
theorem Sub.refl (x : Nat) : Sub x x := Nat.and_self x
theorem Sub.trans {x y z : Nat} (a : Sub x y) (b : Sub y z) : Sub x z := Sub.iff.mpr fun i h => Sub.iff.mp b i (Sub.iff.mp a i h)
theorem Sub.anti {x y : Nat} (a : Sub x y) (b : Sub y x) : x = y := Nat.le_antisymm a.le b.le
theorem nz_iff {x : Nat} : x ≠ 0 ↔ ∃ i, x.testBit i = true := by
  constructor
  · intro h
    obtain ⟨i, hi⟩ := Nat.exists_testBit_ne_of_ne h
    rw [Nat.zero_testBit] at hi
    exact ⟨i, by simpa using hi⟩
  · rintro ⟨i, h⟩ e
    rw [e, Nat.zero_testBit] at h
    cases h
theorem and_nz {x y : Nat} : x &&& y ≠ 0 ↔ ∃ i, x.testBit i = true ∧ y.testBit i = true := by
  rw [nz_iff]
  constructor
  · rintro ⟨i, h⟩
    rw [Nat.testBit_and, Bool.and_eq_true] at h
    exact ⟨i, h⟩
  · rintro ⟨i, h1, h2⟩
    exact ⟨i, by rw [Nat.testBit_and, h1, h2]; rfl⟩
def Crs (T : List Nat) (x : Nat) : Prop := ∀ t ∈ T, x &&& t ≠ 0
theorem Crs.mono {T : List Nat} {x y : Nat} (h : Crs T x) (s : Sub x y) : Crs T y := fun t ht => by
  obtain ⟨i, h1, h2⟩ := and_nz.mp (h t ht)
  exact and_nz.mpr ⟨i, Sub.iff.mp s i h1, h2⟩
def Mn (p : Nat → Prop) (x : Nat) : Prop := p x ∧ ∀ y, p y → Sub y x → y = x
theorem mn_below {p : Nat → Prop} : ∀ (n x : Nat), x ≤ n → p x → ∃ m, Sub m x ∧ Mn p m
  | n, x, hn, hp => by
    by_cases h : ∃ y, p y ∧ Sub y x ∧ y ≠ x
    · obtain ⟨y, h1, h2, h3⟩ := h
      have := h2.le
      cases n with
      | zero => omega
      | succ n =>
        obtain ⟨m, h4, h5⟩ := mn_below n y (by omega) h1
        exact ⟨m, h4.trans h2, h5⟩
    · refine ⟨x, Sub.refl x, hp, fun y hy hs => ?_⟩
      by_cases e : y = x
      · exact e
      · exact absurd ⟨y, hy, hs, e⟩ h
/-- the numbers below n that are in the bits -/
def bitsL (n x : Nat) : List Nat := (List.range n).filter fun i => x.testBit i
theorem bitsL_mem {n x i : Nat} : i ∈ bitsL n x ↔ i < n ∧ x.testBit i = true := by
  unfold bitsL
  rw [List.mem_filter, List.mem_range]
def bitsN (l : List Nat) : Nat := l.foldl (fun b k => b ||| 2 ^ k) 0
theorem bitsN_from (i : Nat) : ∀ (l : List Nat) (b : Nat), (l.foldl (fun b k => b ||| 2 ^ k) b).testBit i = (b.testBit i || decide (i ∈ l))
  | [], b => by simp
  | k :: l, b => by
    rw [List.foldl_cons, bitsN_from i l, Nat.testBit_or, Nat.testBit_two_pow, Bool.or_assoc]
    congr 1
    by_cases e : k = i
    · subst e; simp
    · have : ¬ i = k := fun z => e z.symm
      simp [e, this]
theorem bitsN_test {l : List Nat} {i : Nat} : (bitsN l).testBit i = decide (i ∈ l) := by
  unfold bitsN
  rw [bitsN_from, Nat.zero_testBit, Bool.false_or]
theorem bitsN_lt {l : List Nat} {n : Nat} (h : ∀ k ∈ l, k < n) : bitsN l < 2 ^ n := by
  apply Nat.lt_pow_two_of_testBit
  intro i hi
  rw [bitsN_test]
  exact decide_eq_false fun z => by have := h i z; omega
theorem bitsN_snoc (l : List Nat) (k : Nat) : bitsN (l ++ [k]) = bitsN l ||| 2 ^ k := by
  unfold bitsN
  rw [List.foldl_append]
  rfl
theorem bitsN_L {n x : Nat} (h : x < 2 ^ n) : bitsN (bitsL n x) = x := by
  apply Nat.eq_of_testBit_eq
  intro i
  rw [bitsN_test]
  by_cases hi : i < n
  · cases e : x.testBit i with
    | true => exact decide_eq_true (bitsL_mem.mpr ⟨hi, e⟩)
    | false => exact decide_eq_false fun z => by rw [(bitsL_mem.mp z).2] at e; cases e
  · rw [Nat.testBit_lt_two_pow (Nat.lt_of_lt_of_le h (Nat.pow_le_pow_right (by decide) (by omega)))]
    exact decide_eq_false fun z => hi (bitsL_mem.mp z).1
theorem bitsL_up {n m x : Nat} (h : x < 2 ^ n) (hm : n ≤ m) : bitsL m x = bitsL n x := by
  unfold bitsL
  obtain ⟨d, rfl⟩ : ∃ d, m = n + d := ⟨m - n, by omega⟩
  rw [List.range_add, List.filter_append]
  have e : ((List.range d).map (n + ·)).filter (fun i => x.testBit i) = [] := by
    rw [List.filter_eq_nil_iff]
    intro i hi
    obtain ⟨j, _, rfl⟩ := List.mem_map.mp hi
    rw [Nat.testBit_lt_two_pow (Nat.lt_of_lt_of_le h (Nat.pow_le_pow_right (by decide) (by omega)))]
    decide
  rw [e, List.append_nil]
/-! ### minimal members of a list -/
def leastN (l : List Nat) : List Nat := (srtN l).filter fun one => ((srtN l).filter fun other => decide (other &&& one = other) && decide (other ≠ one)).length == 0
section
variable [KW]
theorem srtN_asc (l : List Nat) : (srtN l).Pairwise (· < ·) := by
  have h := srtU_asc (l.map fun r => ((r : Nat) : Int))
  rw [← srtN_cast, List.pairwise_map] at h
  exact h.imp fun h => by omega
theorem leastN_asc (l : List Nat) : (leastN l).Pairwise (· < ·) := (srtN_asc l).sublist List.filter_sublist
theorem leastN_mem {l : List Nat} {x : Nat} : x ∈ leastN l ↔ x ∈ l ∧ ∀ y ∈ l, Sub y x → y = x := by
  unfold leastN
  rw [List.mem_filter, srtN_mem]
  refine and_congr_right fun hx => ?_
  rw [beq_iff_eq, List.length_eq_zero_iff, List.filter_eq_nil_iff]
  constructor
  · intro h y hy hs
    have := h y (srtN_mem.mpr hy)
    by_cases e : y = x
    · exact e
    · exact absurd (by rw [Bool.and_eq_true]; exact ⟨decide_eq_true hs, decide_eq_true e⟩) this
  · intro h y hy z
    rw [Bool.and_eq_true] at z
    exact of_decide_eq_true z.2 (h y (srtN_mem.mp hy) (show Sub y x from of_decide_eq_true (p := y &&& x = y) z.1))
theorem leastN_len (l : List Nat) : (leastN l).length ≤ l.length := Nat.le_trans (List.length_filter_le _ _) (srtN_len l)
end
/-! ### set by set -/
def newF (n : Nat) (F : List Nat) (t : Nat) : List Nat := F.flatMap fun one => if one &&& t ≠ 0 then [one] else (bitsL n t).map fun k => one ||| 2 ^ k
theorem newF_mem {n : Nat} {F : List Nat} {t x : Nat} : x ∈ newF n F t ↔ ∃ one ∈ F, (one &&& t ≠ 0 ∧ x = one) ∨ (one &&& t = 0 ∧ ∃ k ∈ bitsL n t, x = one ||| 2 ^ k) := by
  unfold newF
  rw [List.mem_flatMap]
  refine exists_congr fun one => and_congr_right fun _ => ?_
  by_cases h : one &&& t ≠ 0
  · rw [if_pos h, List.mem_singleton]
    exact ⟨fun e => .inl ⟨h, e⟩, fun e => e.elim (·.2) fun z => absurd z.1 h⟩
  · rw [if_neg h, List.mem_map]
    have h0 : one &&& t = 0 := by simpa using h
    exact ⟨fun ⟨k, hk, e⟩ => .inr ⟨h0, k, hk, e.symm⟩, fun e => e.elim (fun z => absurd z.1 h) fun ⟨_, k, hk, e⟩ => ⟨k, hk, e.symm⟩⟩
theorem berge [KW] {n : Nat} {F T : List Nat} {t : Nat} (h : ∀ x, x ∈ F ↔ Mn (Crs T) x) (ht : t < 2 ^ n) (x : Nat) : x ∈ leastN (newF n F t) ↔ Mn (Crs (T ++ [t])) x := by
  have crs1 : ∀ z, Crs (T ++ [t]) z ↔ Crs T z ∧ z &&& t ≠ 0 := fun z => by
    unfold Crs
    constructor
    · exact fun h => ⟨fun u hu => h u (List.mem_append_left _ hu), h t (by simp)⟩
    · rintro ⟨h1, h2⟩ u hu
      rcases List.mem_append.mp hu with hu | hu
      · exact h1 u hu
      · rw [List.mem_singleton.mp hu]; exact h2
  have up : ∀ one k : Nat, Sub one (one ||| 2 ^ k) := fun one k => Sub.iff.mpr fun i hi => by rw [Nat.testBit_or, hi]; rfl
  -- each new one crosses
  have c1 : ∀ z ∈ newF n F t, Crs (T ++ [t]) z := fun z hz => by
    obtain ⟨one, ho, h1 | ⟨h1, k, hk, rfl⟩⟩ := newF_mem.mp hz
    · obtain ⟨h1, rfl⟩ := h1
      exact (crs1 _).mpr ⟨((h _).mp ho).1, h1⟩
    · refine (crs1 _).mpr ⟨((h _).mp ho).1.mono (up one k), and_nz.mpr ⟨k, ?_, (bitsL_mem.mp hk).2⟩⟩
      rw [Nat.testBit_or, Nat.testBit_two_pow]
      simp
  -- below each crossing one there is a new one
  have c2 : ∀ z, Crs (T ++ [t]) z → ∃ y ∈ newF n F t, Sub y z := fun z hz => by
    obtain ⟨h1, h2⟩ := (crs1 z).mp hz
    obtain ⟨m, hm, mm⟩ := mn_below z z (Nat.le_refl z) h1
    by_cases hc : m &&& t ≠ 0
    · exact ⟨m, newF_mem.mpr ⟨m, (h m).mpr mm, .inl ⟨hc, rfl⟩⟩, hm⟩
    · obtain ⟨i, i1, i2⟩ := and_nz.mp h2
      have hin : i < n := by
        by_cases hi : i < n
        · exact hi
        · rw [Nat.testBit_lt_two_pow (Nat.lt_of_lt_of_le ht (Nat.pow_le_pow_right (by decide) (by omega)))] at i2
          cases i2
      refine ⟨m ||| 2 ^ i, newF_mem.mpr ⟨m, (h m).mpr mm, .inr ⟨by simpa using hc, i, bitsL_mem.mpr ⟨hin, i2⟩, rfl⟩⟩, Sub.iff.mpr fun j hj => ?_⟩
      rw [Nat.testBit_or, Bool.or_eq_true, Nat.testBit_two_pow] at hj
      rcases hj with hj | hj
      · exact Sub.iff.mp hm j hj
      · have : i = j := by simpa using hj
        rw [← this]; exact i1
  rw [leastN_mem]
  constructor
  · rintro ⟨h1, h2⟩
    refine ⟨c1 x h1, fun y hy hs => ?_⟩
    obtain ⟨z, hz, sz⟩ := c2 y hy
    have e := h2 z hz (sz.trans hs)
    subst e
    exact hs.anti sz
  · rintro ⟨h1, h2⟩
    obtain ⟨z, hz, sz⟩ := c2 x h1
    have e := h2 z (c1 z hz) sz
    subst e
    exact ⟨hz, fun y hy hs => h2 y (c1 y hy) hs⟩
def crossF (n : Nat) (T : List Nat) : List Nat := T.foldl (fun F t => leastN (newF n F t)) [0]
theorem crossF_snoc (n : Nat) (T : List Nat) (t : Nat) : crossF n (T ++ [t]) = leastN (newF n (crossF n T) t) := by
  unfold crossF
  rw [List.foldl_append]
  rfl
theorem mn_nil {x : Nat} : Mn (Crs []) x ↔ x = 0 := by
  constructor
  · rintro ⟨_, h⟩
    exact (h 0 (by intro t ht; cases ht) (Nat.zero_and x)).symm
  · rintro rfl
    refine ⟨(by intro t ht; cases ht), fun y _ hs => ?_⟩
    have := hs.le
    omega
theorem rev_ind {α : Type} {p : List α → Prop} (h0 : p []) (hs : ∀ l a, p l → p (l ++ [a])) (l : List α) : p l := by
  have : ∀ m : List α, p m.reverse := fun m => by
    induction m with
    | nil => exact h0
    | cons a m ih => rw [List.reverse_cons]; exact hs _ _ ih
  have := this l.reverse
  rwa [List.reverse_reverse] at this
theorem crossF_mem [KW] {n : Nat} (T : List Nat) : (∀ t ∈ T, t < 2 ^ n) → ∀ x, x ∈ crossF n T ↔ Mn (Crs T) x := by
  induction T using rev_ind with
  | h0 =>
    intro _ x
    rw [mn_nil]
    show x ∈ [0] ↔ _
    rw [List.mem_singleton]
  | hs T t ih =>
    intro hT x
    rw [crossF_snoc]
    exact berge (ih fun u hu => hT u (List.mem_append_left _ hu)) (hT t (by simp)) x
theorem crossF_asc [KW] {n : Nat} (T : List Nat) : (crossF n T).Pairwise (· < ·) := by
  induction T using rev_ind with
  | h0 => exact List.pairwise_singleton _ _
  | hs T t ih => rw [crossF_snoc]; exact leastN_asc _
theorem mn_lt {n : Nat} {T : List Nat} (hT : ∀ t ∈ T, t < 2 ^ n) {x : Nat} (h : Mn (Crs T) x) : x < 2 ^ n := by
  have e : x % 2 ^ n = x := h.2 _ (fun t ht => by
    obtain ⟨i, h1, h2⟩ := and_nz.mp (h.1 t ht)
    refine and_nz.mpr ⟨i, ?_, h2⟩
    rw [Nat.testBit_mod_two_pow, h1, Bool.and_true]
    by_cases hi : i < n
    · exact decide_eq_true hi
    · rw [Nat.testBit_lt_two_pow (Nat.lt_of_lt_of_le (hT t ht) (Nat.pow_le_pow_right (by decide) (by omega)))] at h2
      cases h2) (Sub.iff.mpr fun i hi => by
    rw [Nat.testBit_mod_two_pow, Bool.and_eq_true] at hi
    exact hi.2)
  rw [← e]
  exact Nat.mod_lt _ (Nat.two_pow_pos n)
/-! ### one by one -/
def leastStep (T : List Nat) (F : List Nat) (b : Nat) : List Nat := if ((T.all fun t => decide (b &&& t ≠ 0)) && !(F.any fun l => decide (b &&& l = l))) = true then F ++ [b] else F
def leastF (n : Nat) (T : List Nat) : List Nat := (List.range (2 ^ n)).foldl (leastStep T) []
theorem leastF_mem (T : List Nat) : ∀ (m x : Nat), x ∈ (List.range m).foldl (leastStep T) [] ↔ x < m ∧ Mn (Crs T) x
  | 0, x => by simp
  | m + 1, x => by
    rw [List.range_succ, List.foldl_append, List.foldl_cons, List.foldl_nil]
    have ih := leastF_mem T m
    generalize (List.range m).foldl (leastStep T) [] = F at ih
    have cr : (T.all fun t => decide (m &&& t ≠ 0)) = true ↔ Crs T m := by
      rw [List.all_eq_true]
      exact ⟨fun h t ht => of_decide_eq_true (h t ht), fun h t ht => decide_eq_true (h t ht)⟩
    have an : (F.any fun l => decide (m &&& l = l)) = true ↔ ∃ y, y < m ∧ Mn (Crs T) y ∧ Sub y m := by
      rw [List.any_eq_true]
      constructor
      · rintro ⟨y, hy, h⟩
        exact ⟨y, ((ih y).mp hy).1, ((ih y).mp hy).2, by have := of_decide_eq_true h; rw [Nat.and_comm] at this; exact this⟩
      · rintro ⟨y, h1, h2, h3⟩
        exact ⟨y, (ih y).mpr ⟨h1, h2⟩, decide_eq_true (by rw [Nat.and_comm]; exact h3)⟩
    have mn : ((T.all fun t => decide (m &&& t ≠ 0)) && !(F.any fun l => decide (m &&& l = l))) = true ↔ Mn (Crs T) m := by
      rw [Bool.and_eq_true, cr, Bool.not_eq_true', ← Bool.not_eq_true, an]
      constructor
      · rintro ⟨h1, h2⟩
        refine ⟨h1, fun y hy hs => ?_⟩
        obtain ⟨z, z1, z2⟩ := mn_below y y (Nat.le_refl y) hy
        have l1 := z1.le
        have l2 := hs.le
        by_cases e : z < m
        · exact absurd ⟨z, e, z2, z1.trans hs⟩ h2
        · omega
      · rintro ⟨h1, h2⟩
        refine ⟨h1, ?_⟩
        rintro ⟨y, y1, y2, y3⟩
        have := h2 y y2.1 y3
        omega
    unfold leastStep
    by_cases c : Mn (Crs T) m
    · rw [if_pos (mn.mpr c), List.mem_append, ih, List.mem_singleton]
      constructor
      · rintro (h | rfl)
        · exact ⟨by omega, h.2⟩
        · exact ⟨by omega, c⟩
      · rintro ⟨h1, h2⟩
        by_cases e : x = m
        · exact .inr e
        · exact .inl ⟨by omega, h2⟩
    · rw [if_neg (fun z => c (mn.mp z)), ih]
      constructor
      · rintro ⟨h1, h2⟩
        exact ⟨by omega, h2⟩
      · rintro ⟨h1, h2⟩
        refine ⟨?_, h2⟩
        by_cases e : x = m
        · subst e; exact absurd h2 c
        · omega
theorem leastF_asc (T : List Nat) : ∀ m : Nat, ((List.range m).foldl (leastStep T) []).Pairwise (· < ·)
  | 0 => List.Pairwise.nil
  | m + 1 => by
    have ih := leastF_asc T m
    have mm := leastF_mem T m
    rw [List.range_succ, List.foldl_append, List.foldl_cons, List.foldl_nil]
    generalize (List.range m).foldl (leastStep T) [] = F at ih mm
    unfold leastStep
    split
    · refine List.pairwise_append.mpr ⟨ih, List.pairwise_singleton _ _, fun x hx y hy => ?_⟩
      rw [List.mem_singleton.mp hy]
      exact ((mm x).mp hx).1
    · exact ih
theorem asc_nodup {l : List Nat} (h : l.Pairwise (· < ·)) : l.Nodup := h.imp fun h => Nat.ne_of_lt h
theorem asc_extN [KW] {l m : List Nat} (h1 : l.Pairwise (· < ·)) (h2 : m.Pairwise (· < ·)) (e : ∀ x, x ∈ l ↔ x ∈ m) : l = m := by
  apply cast_inj
  refine asc_ext (List.pairwise_map.mpr (h1.imp fun h => by omega)) (List.pairwise_map.mpr (h2.imp fun h => by omega)) fun k => ?_
  rw [List.mem_map, List.mem_map]
  exact exists_congr fun x => and_congr_left fun _ => e x
/-- what the program finds is what the law finds -/
theorem least_cross [KW] {n m : Nat} {T : List Nat} (hn : n ≤ m) (hT : ∀ t ∈ T, t < 2 ^ n) : leastF n T = crossF m T := by
  refine asc_extN (leastF_asc T _) (crossF_asc T) fun x => ?_
  unfold leastF
  rw [leastF_mem, crossF_mem T fun t ht => Nat.lt_of_lt_of_le (hT t ht) (Nat.pow_le_pow_right (by decide) hn)]
  exact ⟨fun h => h.2, fun h => ⟨mn_lt hT h, h⟩⟩
/-! ### crossing what crosses -/
theorem dual_crs {n : Nat} {T M : List Nat} (hT : ∀ t ∈ T, t < 2 ^ n) (hM : ∀ x, x ∈ M ↔ Mn (Crs T) x) (b : Nat) : Crs M b ↔ ∃ t ∈ T, Sub t b := by
  constructor
  · intro h
    by_cases c : ∃ t ∈ T, Sub t b
    · exact c
    · exfalso
      have tc : ∀ i, ((2 ^ n - 1) ^^^ (b % 2 ^ n)).testBit i = (decide (i < n) && !b.testBit i) := fun i => by
        rw [Nat.testBit_xor, Nat.testBit_two_pow_sub_one, Nat.testBit_mod_two_pow]
        cases decide (i < n) <;> cases b.testBit i <;> rfl
      have cc : Crs T ((2 ^ n - 1) ^^^ (b % 2 ^ n)) := fun t ht => by
        have hs : ¬ Sub t b := fun z => c ⟨t, ht, z⟩
        have : ∃ i, t.testBit i = true ∧ ¬ b.testBit i = true := by
          by_cases d : ∃ i, t.testBit i = true ∧ ¬ b.testBit i = true
          · exact d
          · refine absurd (Sub.iff.mpr fun i hi => ?_) hs
            by_cases e : b.testBit i = true
            · exact e
            · exact absurd ⟨i, hi, e⟩ d
        obtain ⟨i, h1, h2⟩ := this
        refine and_nz.mpr ⟨i, ?_, h1⟩
        rw [tc, Bool.and_eq_true]
        refine ⟨?_, by simpa using h2⟩
        by_cases hi : i < n
        · exact decide_eq_true hi
        · rw [Nat.testBit_lt_two_pow (Nat.lt_of_lt_of_le (hT t ht) (Nat.pow_le_pow_right (by decide) (by omega)))] at h1
          cases h1
      obtain ⟨m, h1, h2⟩ := mn_below _ _ (Nat.le_refl _) cc
      obtain ⟨i, i1, i2⟩ := and_nz.mp (h m ((hM m).mpr h2))
      have := Sub.iff.mp h1 i i2
      rw [tc, i1] at this
      simp at this
  · rintro ⟨t, ht, hs⟩ m hm
    obtain ⟨i, i1, i2⟩ := and_nz.mp (((hM m).mp hm).1 t ht)
    exact and_nz.mpr ⟨i, Sub.iff.mp hs i i2, i1⟩
theorem dual_mn [KW] {n : Nat} {T M : List Nat} (hT : ∀ t ∈ T, t < 2 ^ n) (hM : ∀ x, x ∈ M ↔ Mn (Crs T) x) (x : Nat) : Mn (Crs M) x ↔ x ∈ leastN T := by
  have dc := dual_crs hT hM
  rw [leastN_mem]
  constructor
  · rintro ⟨h1, h2⟩
    obtain ⟨t, ht, hs⟩ := (dc x).mp h1
    have e := h2 t ((dc t).mpr ⟨t, ht, Sub.refl t⟩) hs
    subst e
    exact ⟨ht, fun y hy hs => h2 y ((dc y).mpr ⟨y, hy, Sub.refl y⟩) hs⟩
  · rintro ⟨h1, h2⟩
    refine ⟨(dc x).mpr ⟨x, h1, Sub.refl x⟩, fun y hy hs => ?_⟩
    obtain ⟨t, ht, st⟩ := (dc y).mp hy
    have e := h2 t ht (st.trans hs)
    subst e
    exact hs.anti st
theorem least_dual [KW] {n : Nat} {T M : List Nat} (hT : ∀ t ∈ T, t < 2 ^ n) (hM : ∀ x, x ∈ M ↔ Mn (Crs T) x) : leastF n M = leastN T := by
  refine asc_extN (leastF_asc M _) (leastN_asc T) fun x => ?_
  unfold leastF
  rw [leastF_mem, dual_mn hT hM]
  exact ⟨fun h => h.2, fun h => ⟨hT x (leastN_mem.mp h).1, h⟩⟩
/-! ### how many they are -/
theorem nodup_lt : ∀ {N : Nat} {l : List Nat}, l.Nodup → (∀ x ∈ l, x < N) → l.length ≤ N
  | 0, l, _, h => by
    cases l with
    | nil => exact Nat.le_refl _
    | cons x l => exact absurd (h x List.mem_cons_self) (Nat.not_lt_zero x)
  | N + 1, l, d, h => by
    have := nodup_lt (N := N) (l := l.erase N) (d.erase N) fun x hx => by
      rw [d.mem_erase_iff] at hx
      have := h x hx.2
      omega
    have := List.le_length_erase (l := l) (a := N)
    omega
theorem anti_len {n : Nat} {l : List Nat} (d : l.Nodup) (h : ∀ x ∈ l, x < 2 ^ (n + 1)) (a : ∀ x ∈ l, ∀ y ∈ l, Sub x y → x = y) : l.length ≤ 2 ^ n := by
  have inj : ∀ x ∈ l, ∀ y ∈ l, x / 2 = y / 2 → x = y := fun x hx y hy e => by
    have tb : ∀ i, x.testBit (i + 1) = y.testBit (i + 1) := fun i => by rw [Nat.testBit_succ, Nat.testBit_succ, e]
    have sub : ∀ {u v : Nat}, (∀ i, u.testBit (i + 1) = v.testBit (i + 1)) → u.testBit 0 = false → Sub u v := fun {u v} t0 z => Sub.iff.mpr fun i hi => by
      cases i with
      | zero => rw [z] at hi; cases hi
      | succ i => rw [← t0]; exact hi
    cases e0 : x.testBit 0 with
    | false => exact a x hx y hy (sub tb e0)
    | true =>
      cases e1 : y.testBit 0 with
      | false => exact (a y hy x hx (sub (fun i => (tb i).symm) e1)).symm
      | true =>
        apply Nat.eq_of_testBit_eq
        intro i
        cases i with
        | zero => rw [e0, e1]
        | succ i => exact tb i
  have nd : (l.map (· / 2)).Nodup := List.pairwise_map.mpr (d.imp_of_mem fun hx hy hne e => hne (inj _ hx _ hy e))
  have := nodup_lt (N := 2 ^ n) nd fun x hx => by
    obtain ⟨y, hy, rfl⟩ := List.mem_map.mp hx
    have := h y hy
    rw [Nat.pow_succ] at this
    omega
  rwa [List.length_map] at this
theorem cnt_succ (n t : Nat) : (bitsL (n + 1) t).length = (bitsL n t).length + if t.testBit n = true then 1 else 0 := by
  unfold bitsL
  rw [List.range_succ, List.filter_append, List.length_append, List.filter_cons, List.filter_nil]
  cases t.testBit n <;> rfl
theorem dis_len : ∀ {n : Nat} {l : List Nat} {t : Nat}, l.Nodup → (∀ x ∈ l, x < 2 ^ n ∧ x &&& t = 0) → l.length * 2 ^ (bitsL n t).length ≤ 2 ^ n
  | 0, l, t, d, h => by
    have := nodup_lt (N := 1) d fun x hx => (h x hx).1
    show l.length * 2 ^ 0 ≤ 2 ^ 0
    omega
  | n + 1, l, t, d, h => by
    have tz : ∀ x ∈ l, ∀ i, x.testBit i = true → t.testBit i = true → False := fun x hx i h1 h2 => and_nz.mpr ⟨i, h1, h2⟩ (h x hx).2
    rw [cnt_succ]
    cases e : t.testBit n with
    | true =>
      rw [if_pos rfl, Nat.pow_succ, Nat.pow_succ]
      have := dis_len (n := n) (t := t) d fun x hx => ⟨by
        apply Nat.lt_pow_two_of_testBit
        intro i hi
        by_cases c : i = n
        · subst c
          cases q : x.testBit i with
          | false => rfl
          | true => exact (tz x hx i q e).elim
        · exact Nat.testBit_lt_two_pow (Nat.lt_of_lt_of_le (h x hx).1 (Nat.pow_le_pow_right (by decide) (by omega))), (h x hx).2⟩
      rw [← Nat.mul_assoc]
      omega
    | false =>
      rw [if_neg (by decide), Nat.add_zero]
      have l0 := dis_len (n := n) (t := t) (l := l.filter fun x => decide (x < 2 ^ n)) (d.sublist List.filter_sublist) fun x hx => by
        rw [List.mem_filter] at hx
        exact ⟨of_decide_eq_true hx.2, (h x hx.1).2⟩
      have hi : ∀ x ∈ l.filter (fun x => !decide (x < 2 ^ n)), x % 2 ^ n + 2 ^ n = x := fun x hx => by
        rw [List.mem_filter] at hx
        have h1 := (h x hx.1).1
        have h2 : ¬ x < 2 ^ n := by simpa using hx.2
        rw [Nat.pow_succ] at h1
        have : x % 2 ^ n = x - 2 ^ n := by
          rw [Nat.mod_eq_sub_mod (by omega), Nat.mod_eq_of_lt (by omega)]
        omega
      have l1 := dis_len (n := n) (t := t) (l := (l.filter fun x => !decide (x < 2 ^ n)).map (· % 2 ^ n)) (List.pairwise_map.mpr ((d.sublist List.filter_sublist).imp_of_mem fun {x y} hx hy hne z => hne (by
          have := hi x hx
          have := hi y hy
          omega))) fun x hx => by
        obtain ⟨y, hy, rfl⟩ := List.mem_map.mp hx
        refine ⟨Nat.mod_lt _ (Nat.two_pow_pos n), ?_⟩
        by_cases c : y % 2 ^ n &&& t = 0
        · exact c
        · obtain ⟨i, i1, i2⟩ := and_nz.mp c
          rw [Nat.testBit_mod_two_pow, Bool.and_eq_true] at i1
          exact (tz y (List.mem_filter.mp hy).1 i i1.2 i2).elim
      rw [List.length_map] at l1
      have el : l.length = (l.filter fun x => decide (x < 2 ^ n)).length + (l.filter fun x => !decide (x < 2 ^ n)).length := by
        rw [← List.length_append]
        exact (List.filter_append_perm _ l).length_eq.symm
      rw [el, Nat.add_mul, Nat.pow_succ]
      omega
theorem newF_len {n : Nat} {t : Nat} : ∀ F : List Nat, (newF n F t).length = (F.filter fun x => decide (x &&& t ≠ 0)).length + (F.filter fun x => !decide (x &&& t ≠ 0)).length * (bitsL n t).length
  | [] => by simp [newF]
  | x :: F => by
    have ih := newF_len (n := n) (t := t) F
    unfold newF at ih ⊢
    rw [List.flatMap_cons, List.length_append, ih, List.filter_cons, List.filter_cons]
    by_cases c : x &&& t ≠ 0
    · rw [if_pos c, if_pos (decide_eq_true c), if_neg (by rw [decide_eq_true c]; decide), List.length_cons, List.length_cons, List.length_nil]
      omega
    · rw [if_neg c, if_neg (by rw [decide_eq_false c]; decide), if_pos (by rw [decide_eq_false c]; rfl), List.length_cons, List.length_map, Nat.add_mul]
      omega
theorem new12_len {F T : List Nat} {t : Nat} (d : F.Nodup) (h : ∀ x, x ∈ F ↔ Mn (Crs T) x) (hT : ∀ u ∈ T, u < 2 ^ 12) : F.length ≤ 2048 ∧ (newF 12 F t).length ≤ 3072 := by
  have h1 : F.length ≤ 2 ^ 11 := anti_len d (fun x hx => mn_lt hT ((h x).mp hx)) fun x hx y hy hs => ((h y).mp hy).2 x ((h x).mp hx).1 hs
  refine ⟨h1, ?_⟩
  have h2 := dis_len (n := 12) (t := t) (l := F.filter fun x => !decide (x &&& t ≠ 0)) (d.sublist List.filter_sublist) fun x hx => by
    rw [List.mem_filter] at hx
    exact ⟨mn_lt hT ((h x).mp hx.1), by simpa using hx.2⟩
  have el : F.length = (F.filter fun x => decide (x &&& t ≠ 0)).length + (F.filter fun x => !decide (x &&& t ≠ 0)).length := by
    rw [← List.length_append]
    exact (List.filter_append_perm _ F).length_eq.symm
  have hs : (bitsL 12 t).length ≤ 12 := by
    have := List.length_filter_le (fun i => t.testBit i) (List.range 12)
    rw [List.length_range] at this
    exact this
  rw [newF_len]
  generalize (F.filter fun x => decide (x &&& t ≠ 0)).length = a at *
  generalize (F.filter fun x => !decide (x &&& t ≠ 0)).length = b at *
  generalize (bitsL 12 t).length = s at *
  obtain rfl | rfl | rfl | rfl | rfl | rfl | rfl | rfl | rfl | rfl | rfl | rfl | rfl : s = 0 ∨ s = 1 ∨ s = 2 ∨ s = 3 ∨ s = 4 ∨ s = 5 ∨ s = 6 ∨ s = 7 ∨ s = 8 ∨ s = 9 ∨ s = 10 ∨ s = 11 ∨ s = 12 := by omega
  all_goals omega
/-! ### as data -/
def bI (x : Nat) : List Int := (bitsL 12 x).map fun i => ((i : Nat) : Int)
theorem bI_inj [KW] {x y : Nat} (hx : x < 2 ^ 12) (hy : y < 2 ^ 12) (e : bI x = bI y) : x = y := by
  have := cast_inj e
  rw [← bitsN_L hx, ← bitsN_L hy, this]
def srtB (l : List Nat) : List Nat := l.mergeSort fun x y => !ltL (bI y) (bI x)
theorem srtB_perm (l : List Nat) : (srtB l).Perm l := List.mergeSort_perm l _
theorem srtB_asc (l : List Nat) : (srtB l).Pairwise fun x y => ltL (bI y) (bI x) = false := by
  have := List.pairwise_mergeSort (le := fun x y => !ltL (bI y) (bI x)) (fun a b c h1 h2 => by
    have h1 : ltL (bI b) (bI a) = false := by simpa using h1
    have h2 : ltL (bI c) (bI b) = false := by simpa using h2
    show (!ltL (bI c) (bI a)) = true
    rw [ltL_tr (bI a) (bI b) (bI c) h1 h2]; rfl) (fun a b => by
    show (!ltL (bI b) (bI a) || !ltL (bI a) (bI b)) = true
    cases e : ltL (bI b) (bI a) with
    | false => rfl
    | true => rw [ltL_asym (bI b) (bI a) e]; rfl) l
  exact this.imp fun h => by simpa using h
theorem srtB_eq [KW] {l m : List Nat} (hl : ∀ x ∈ l, x < 2 ^ 12) (p : m.Perm l) (h : m.Pairwise fun x y => ltL (bI y) (bI x) = false) : m = srtB l := by
  refine List.Perm.eq_of_pairwise (le := fun x y => ltL (bI y) (bI x) = false) (fun x y hx hy a b => ?_) h (srtB_asc l) (p.trans (srtB_perm l).symm)
  exact bI_inj (hl x (p.mem_iff.mp hx)) (hl y ((srtB_perm l).mem_iff.mp hy)) (ltL_tot _ _ b a)
theorem srtB_cong [KW] {l m : List Nat} (hm : ∀ x ∈ m, x < 2 ^ 12) (p : l.Perm m) : srtB l = srtB m := srtB_eq hm ((srtB_perm l).trans p) (srtB_asc l)
def setD (x : Nat) : PyData := .tuple (nD (bitsL 12 x))
def setsD (L : List Nat) : List PyData := (srtB L).map setD
theorem bitsL_len (n x : Nat) : (bitsL n x).length ≤ n := by
  have := List.length_filter_le (fun i => x.testBit i) (List.range n)
  rw [List.length_range] at this
  exact this
end LL

set_option Elab.async false
set_option linter.all false
set_option maxRecDepth 100000
set_option maxHeartbeats 400000
/-! LBits: the bit operations of naturals -/
namespace LL
open PySem PySem.Spec PyProof.Rows L2
theorem bor (a b : Nat) : Builtin.bitOr (a : Int) (b : Int) = ((a ||| b : Nat) : Int) := by
  rw [Bits.bitOr_pp (by omega) (by omega), Int.toNat_natCast, Int.toNat_natCast]
theorem band (a b : Nat) : Builtin.bitAnd (a : Int) (b : Int) = ((a &&& b : Nat) : Int) := by
  rw [bitAnd_pp (by omega) (by omega), Int.toNat_natCast, Int.toNat_natCast]
theorem shl1 (k : Nat) : (1 : Int) * 2 ^ ((k : Nat) : Int).toNat = ((2 ^ k : Nat) : Int) := by
  rw [Int.toNat_natCast, Int.one_mul, Int.natCast_pow]
  rfl
theorem nat_ne {a b : Nat} : (V.int (a : Int) = V.int (b : Int)) ↔ a = b := ⟨fun h => by have := V.int.inj h; omega, fun h => by rw [h]⟩
section
variable {σ : L2.St} {H : Hp} {Q : VK}
theorem rd_shl1 {k : Nat} (h : k ≤ 1000) (q : Q (.int ((2 ^ k : Nat) : Int)) H) : rI CPow (fun i j => V.int (i * 2 ^ j.toNat)) (.int 1) (.int (k : Nat)) H Q :=
  ⟨1, (k : Nat), rfl, rfl, ⟨by omega, by omega, by decide⟩, by show Q (.int (1 * 2 ^ ((k : Nat) : Int).toNat)) H; rw [shl1]; exact q⟩
theorem rd_bor {a b : Nat} (q : Q (.int ((a ||| b : Nat) : Int)) H) : rI0 (fun i j => V.int (Builtin.bitOr i j)) (.int (a : Nat)) (.int (b : Nat)) H Q := ⟨a, b, rfl, rfl, by show Q (.int (Builtin.bitOr (a : Int) (b : Int))) H; rw [bor]; exact q⟩
theorem rd_band {a b : Nat} (q : Q (.int ((a &&& b : Nat) : Int)) H) : rI0 (fun i j => V.int (Builtin.bitAnd i j)) (.int (a : Nat)) (.int (b : Nat)) H Q := ⟨a, b, rfl, rfl, by show Q (.int (Builtin.bitAnd (a : Int) (b : Int))) H; rw [band]; exact q⟩
end
theorem and_pow {x k : Nat} : decide (V.int ((x &&& 2 ^ k : Nat) : Int) = V.int 0) = !x.testBit k := by
  have e : x &&& 2 ^ k = if x.testBit k = true then 2 ^ k else 0 := by
    apply Nat.eq_of_testBit_eq
    intro i
    rw [Nat.testBit_and, Nat.testBit_two_pow]
    by_cases h : k = i
    · subst h
      cases x.testBit k with
      | true => simp [Nat.testBit_two_pow]
      | false => simp
    · rw [decide_eq_false h, Bool.and_false]
      split
      · rw [Nat.testBit_two_pow, decide_eq_false h]
      · rw [Nat.zero_testBit]
  cases h : x.testBit k with
  | true =>
    rw [h, if_pos rfl] at e
    rw [e]
    have := Nat.two_pow_pos k
    exact decide_eq_false fun z => by have := V.int.inj z; omega
  | false =>
    rw [h, if_neg (by decide)] at e
    rw [e]
    exact decide_eq_true rfl
end LL

set_option Elab.async false
set_option linter.all false
set_option maxRecDepth 100000
set_option maxHeartbeats 400000
/-! LNatC: comprehensions over a list of rows -/
namespace LL
open PySem PySem.Spec PyProof.Rows L2
section
variable {X : Cx}
/-- inside a block: the context's K is given by hand -/
theorem call_lenK (K : PySem.W.Frag) (hK : X.K = K) : CallR X (.builtin "len") (fun xs H Q => ∃ p ys, xs = [V.ref p] ∧ (SqL K H p ys ∨ SqT K H p ys) ∧ Q (V.int (ys.length : Nat)) H) := by
  subst hK
  exact call_len_seq
theorem call_tupleK (K : PySem.W.Frag) (hK : X.K = K) : CallR X (.type "tuple") (fun xs H Q => ∃ p ys, xs = [V.ref p] ∧ ((SqL K H p ys ∧ ∀ l, H l = none → Q (.ref l) (upd H l (.tup ys))) ∨ (SqT K H p ys ∧ Q (.ref p) H))) := by
  subst hK
  exact call_tuple_of
theorem pi_listK (K : PySem.W.Frag) (hK : X.K = K) {tg l : Expr} {tl : TE} (hl : PE X l tl) : PI X tg l (iList K tl) := by
  subst hK
  exact pi_list hl
end
section
variable [KW]
variable {K : PySem.W.Frag} {a D : Addr} {T : List Nat} {g : TG} {te : TE} {tt : TT} {vs : List Nat} {σ : L2.St} {H1 : Hp} {Qd : Hp → Prop}
theorem nVl_gt {rows : List Nat} {i : Nat} {x : V} (h : (nVl rows)[i]? = some x) : ∃ k : Nat, rows[i]? = some k ∧ x = .int (k : Nat) := by
  unfold nVl at h
  rw [List.getElem?_map, Option.map_eq_some_iff] at h
  obtain ⟨k, hk, rfl⟩ := h
  exact ⟨k, hk, rfl⟩
theorem nVl_lth (rows : List Nat) : (nVl rows).length = rows.length := by unfold nVl; rw [List.length_map]
theorem take_snc {α : Type} {l : List α} {i : Nat} {k : α} (h : l[i]? = some k) : l.take (i + 1) = l.take i ++ [k] := by rw [List.take_add_one, h]; rfl
theorem lc_natL (ys : Nat → V) (hD : H1 D = none) (src : H1 a = some (.lst (nVl T))) (hz : T.length ≤ 1000000)
    (hs : ∀ (k : Nat) (H : Hp) (acc : List V) (R : V → Hp → Prop), k ∈ T → Adv [] H1 H → H D = some (.lst acc) → (∀ H4, H4 D = some (.lst acc) → Adv [] H1 H4 → R (ys k) H4) → g (.int (k : Nat)) (wipe σ vs) H fun σ2 H2 => wipe σ2 vs = wipe σ vs ∧ te σ2 H2 R)
    (hd : ∀ H, Adv [] H1 H → H D = some (.lst (T.map ys)) → Qd H) :
    ∃ W : Nat → Nat → Hp → Prop, (∃ m, W 0 m (upd H1 D (.lst []))) ∧ ∀ i m H, W i m H →
      ((Itl K a).stop i H ∧ Qd H) ∨ ((Itl K a).go i H ∧ ∃ Nx : Hp → Prop, (∀ H', Nx H' → ∃ m', m' < m ∧ W (i + 1) m' H') ∧ ∀ x H', (Itl K a).yld i H x H' → g x (wipe σ vs) H' fun σ2 H2 => wipe σ2 vs = wipe σ vs ∧ tYes σ2 H2 fun b H3 =>
        if b = true then te σ2 H3 fun y H4 => ∃ acc, H4 D = some (.lst acc) ∧ acc.length < sizeLine ∧ Nx (upd H4 D (.lst (acc ++ [y]))) else Nx H3) := by
  refine lc_list (K := K) (a := a) (xs := nVl T) (tt := tYes) (fun i H => Adv [] H1 H ∧ H D = some (.lst ((T.take i).map ys))) ⟨Adv.new hD, upd_same⟩ (fun i H _ p => SqL.of (p.1.same _ _ src)) (fun i x H hx p => ?_) (fun H p => ?_)
  · obtain ⟨k, hk, rfl⟩ := nVl_gt hx
    refine hs k H _ (fun y H4 => ∃ acc, H4 D = some (.lst acc) ∧ acc.length < sizeLine ∧ Adv [] H1 (upd H4 D (.lst (acc ++ [y]))) ∧ (upd H4 D (.lst (acc ++ [y]))) D = some (.lst ((T.take (i + 1)).map ys))) (List.mem_of_getElem? hk) p.1 p.2 (fun H4 e4 a4 => ⟨_, e4, ?_, Adv.mut a4 hD, ?_⟩)
    · rw [List.length_map, List.length_take, sizeLine_eq]
      omega
    · rw [upd_same, take_snc hk, List.map_append]
      rfl
  · obtain ⟨p1, p2⟩ := p
    rw [nVl_lth, List.take_length] at p2
    exact hd H p1 p2
theorem lc_filtL (ys : Nat → V) (c : Nat → Bool) (hD : H1 D = none) (src : H1 a = some (.lst (nVl T))) (hz : T.length ≤ 1000000)
    (hs : ∀ (k : Nat) (H : Hp) (acc : List V) (R : V → Hp → Prop) (R0 : Hp → Prop), k ∈ T → Adv [] H1 H → H D = some (.lst acc) → (c k = true → ∀ H4, H4 D = some (.lst acc) → Adv [] H1 H4 → R (ys k) H4) →
      (c k = false → ∀ H4, H4 D = some (.lst acc) → Adv [] H1 H4 → R0 H4) → g (.int (k : Nat)) (wipe σ vs) H fun σ2 H2 => wipe σ2 vs = wipe σ vs ∧ tt σ2 H2 fun b H3 => if b = true then te σ2 H3 R else R0 H3)
    (hd : ∀ H, Adv [] H1 H → H D = some (.lst ((T.filter c).map ys)) → Qd H) :
    ∃ W : Nat → Nat → Hp → Prop, (∃ m, W 0 m (upd H1 D (.lst []))) ∧ ∀ i m H, W i m H →
      ((Itl K a).stop i H ∧ Qd H) ∨ ((Itl K a).go i H ∧ ∃ Nx : Hp → Prop, (∀ H', Nx H' → ∃ m', m' < m ∧ W (i + 1) m' H') ∧ ∀ x H', (Itl K a).yld i H x H' → g x (wipe σ vs) H' fun σ2 H2 => wipe σ2 vs = wipe σ vs ∧ tt σ2 H2 fun b H3 =>
        if b = true then te σ2 H3 fun y H4 => ∃ acc, H4 D = some (.lst acc) ∧ acc.length < sizeLine ∧ Nx (upd H4 D (.lst (acc ++ [y]))) else Nx H3) := by
  refine lc_list (K := K) (a := a) (xs := nVl T) (tt := tt) (fun i H => Adv [] H1 H ∧ H D = some (.lst (((T.take i).filter c).map ys))) ⟨Adv.new hD, upd_same⟩ (fun i H _ p => SqL.of (p.1.same _ _ src)) (fun i x H hx p => ?_) (fun H p => ?_)
  · obtain ⟨k, hk, rfl⟩ := nVl_gt hx
    refine hs k H _ (fun y H4 => ∃ acc, H4 D = some (.lst acc) ∧ acc.length < sizeLine ∧ Adv [] H1 (upd H4 D (.lst (acc ++ [y]))) ∧ (upd H4 D (.lst (acc ++ [y]))) D = some (.lst (((T.take (i + 1)).filter c).map ys)))
      (fun H3 => Adv [] H1 H3 ∧ H3 D = some (.lst (((T.take (i + 1)).filter c).map ys))) (List.mem_of_getElem? hk) p.1 p.2 (fun hc H4 e4 a4 => ⟨_, e4, ?_, Adv.mut a4 hD, ?_⟩) (fun hc H4 e4 a4 => ⟨a4, ?_⟩)
    · have h1 := List.length_filter_le c (T.take i)
      rw [List.length_take] at h1
      rw [List.length_map, sizeLine_eq]
      omega
    · rw [upd_same, take_snc hk, List.filter_append, List.map_append, List.filter_cons, if_pos hc]
      rfl
    · rw [e4, take_snc hk, List.filter_append, List.filter_cons, if_neg (by rw [hc]; decide), List.filter_nil, List.append_nil]
  · obtain ⟨p1, p2⟩ := p
    rw [nVl_lth, List.take_length] at p2
    exact hd H p1 p2
/-- each item gives an object: what is said of it must bear changes at D -/
theorem lc_relL {xs : List V} (Rl : Nat → V → Hp → Prop) (hD : H1 D = none) (src : H1 a = some (.lst xs)) (hz : xs.length ≤ 1000000)
    (mono : ∀ i v H H', Rl i v H → Adv [D] H H' → Rl i v H')
    (hs : ∀ (i : Nat) (x : V) (H : Hp) (acc : List V) (R : V → Hp → Prop), xs[i]? = some x → Adv [] H1 H → H D = some (.lst acc) → (∀ y H4, H4 D = some (.lst acc) → Adv [] H H4 → Rl i y H4 → R y H4) → g x (wipe σ vs) H fun σ2 H2 => wipe σ2 vs = wipe σ vs ∧ te σ2 H2 R)
    (hd : ∀ H ys, Adv [] H1 H → H D = some (.lst ys) → ys.length = xs.length → (∀ i y, ys[i]? = some y → Rl i y H) → Qd H) :
    ∃ W : Nat → Nat → Hp → Prop, (∃ m, W 0 m (upd H1 D (.lst []))) ∧ ∀ i m H, W i m H →
      ((Itl K a).stop i H ∧ Qd H) ∨ ((Itl K a).go i H ∧ ∃ Nx : Hp → Prop, (∀ H', Nx H' → ∃ m', m' < m ∧ W (i + 1) m' H') ∧ ∀ x H', (Itl K a).yld i H x H' → g x (wipe σ vs) H' fun σ2 H2 => wipe σ2 vs = wipe σ vs ∧ tYes σ2 H2 fun b H3 =>
        if b = true then te σ2 H3 fun y H4 => ∃ acc, H4 D = some (.lst acc) ∧ acc.length < sizeLine ∧ Nx (upd H4 D (.lst (acc ++ [y]))) else Nx H3) := by
  refine lc_list (K := K) (a := a) (xs := xs) (tt := tYes) (fun i H => Adv [] H1 H ∧ ∃ ys, H D = some (.lst ys) ∧ ys.length = i ∧ ∀ j y, ys[j]? = some y → Rl j y H) ⟨Adv.new hD, [], upd_same, rfl, by simp⟩ (fun i H _ p => SqL.of (p.1.same _ _ src)) (fun i x H hx p => ?_) (fun H p => ?_)
  · obtain ⟨p1, ys, p2, p3, p4⟩ := p
    have hi : i < xs.length := (List.getElem?_eq_some_iff.mp hx).1
    refine hs i x H ys (fun y H4 => ∃ acc, H4 D = some (.lst acc) ∧ acc.length < sizeLine ∧ Adv [] H1 (upd H4 D (.lst (acc ++ [y]))) ∧ ∃ zs, (upd H4 D (.lst (acc ++ [y]))) D = some (.lst zs) ∧ zs.length = i + 1 ∧ ∀ j y', zs[j]? = some y' → Rl j y' (upd H4 D (.lst (acc ++ [y])))) hx p1 p2 (fun y H4 e4 a4 r4 => ⟨_, e4, ?_, Adv.mut (p1.trans a4) hD, _, upd_same, by rw [List.length_append, p3]; rfl, fun j y' hj => ?_⟩)
    · rw [p3, sizeLine_eq]
      omega
    · have c : Adv [D] H4 (upd H4 D (.lst (ys ++ [y]))) := Adv.set (by simp)
      by_cases hj2 : j < ys.length
      · rw [List.getElem?_append_left hj2] at hj
        exact mono _ _ _ _ (p4 j y' hj) (Adv.nil a4 |>.trans c)
      · rw [List.getElem?_append_right (by omega)] at hj
        have e0 : j - ys.length = 0 := by
          have := (List.getElem?_eq_some_iff.mp hj).1
          simp at this
          omega
        rw [e0] at hj
        have ey : y = y' := by simpa using hj
        have ej : j = i := by omega
        subst ey ej
        exact mono _ _ _ _ r4 c
  · obtain ⟨p1, ys, p2, p3, p4⟩ := p
    exact hd H ys p1 p2 p3 p4
end
end LL

set_option Elab.async false
set_option linter.all false
set_option maxRecDepth 100000
set_option maxHeartbeats 400000
/-! LTrS: sorted of a list of tuples of bits -/
namespace LL
open PySem PySem.Spec PyProof.Rows L2
def intV : V → Int
  | .int i => i
  | _ => 0
def keyAt (H : Hp) : V → List Int
  | .ref t => match H t with
    | some (.tup vs) => vs.map intV
    | _ => []
  | _ => []
theorem keyAt_tup {H : Hp} {t : Addr} {rows : List Nat} (h : H t = some (.tup (nVl rows))) : keyAt H (.ref t) = rows.map fun i => ((i : Nat) : Int) := by
  show (match H t with
    | some (.tup vs) => vs.map intV
    | _ => []) = _
  rw [h]
  show (nVl rows).map intV = _
  unfold nVl
  rw [List.map_map]
  rfl
def decV (H : Hp) (v : V) : Nat := bitsN ((keyAt H v).map Int.toNat)
theorem decV_tup {H : Hp} {t : Addr} {n x : Nat} (h : H t = some (.tup (nVl (bitsL n x)))) (hx : x < 2 ^ n) : decV H (.ref t) = x := by
  unfold decV
  rw [keyAt_tup h, List.map_map]
  have : ((bitsL n x).map (Int.toNat ∘ fun i => ((i : Nat) : Int))) = bitsL n x := by
    conv => rhs; rw [← List.map_id (bitsL n x)]
    exact List.map_congr_left fun a _ => by simp
  rw [this, bitsN_L hx]
theorem bitsL_nil {n x : Nat} (hx : x < 2 ^ n) (e : bitsL n x = []) : x = 0 := by
  rw [← bitsN_L hx, e]
  rfl
section
variable [KW]
theorem go_sort {M : List Addr} {H : Hp} {Q : VK} {D : Addr} {ys : List V} {L : List Nat} {n : Nat} (hn : n ≤ 12) (hL : ∀ x ∈ L, x < 2 ^ n) (h0 : 2 ≤ L.length → ∀ x ∈ L, x ≠ 0)
    (hD : H D = some (.lst ys)) (hl : ys.length = L.length) (hy : ∀ (i : Nat) (y : V), ys[i]? = some y → ∃ (t : Addr) (x : Nat), L[i]? = some x ∧ y = V.ref t ∧ t ∉ M ∧ H t = some (.tup (nVl (bitsL n x))))
    (q : ∀ p zs H', H p = none → H' p = some (.lst zs) → IsDs M H' (setsD L) zs → Adv [] H H' → Q (.ref p) H') : rSortT [.ref D] H Q := by
  have hm : ∀ y ∈ ys, ∃ (t : Addr) (x : Nat), x ∈ L ∧ y = V.ref t ∧ t ∉ M ∧ H t = some (.tup (nVl (bitsL n x))) := fun y hm => by
    obtain ⟨i, hi, e⟩ := List.mem_iff_getElem.mp hm
    obtain ⟨t, x, h1, h2, h3, h4⟩ := hy i y (by rw [List.getElem?_eq_getElem hi, e])
    exact ⟨t, x, List.mem_of_getElem? h1, h2, h3, h4⟩
  refine ⟨D, ys, keyAt H, rfl, hD, fun y h => ?_, fun h2 y h => ?_, fun zs p pm pw np => ?_⟩
  · obtain ⟨t, x, h1, h2, h3, h4⟩ := hm y h
    refine ⟨t, h2, ?_⟩
    rw [h2, keyAt_tup h4, h4]
    unfold nVl
    rw [List.map_map]
    rfl
  · obtain ⟨t, x, h1, rfl, h3, h4⟩ := hm y h
    rw [keyAt_tup h4]
    intro e
    exact h0 (by omega) x h1 (bitsL_nil (hL x h1) (by simpa using e))
  · have e1 : ys.map (decV H) = L := by
      apply List.ext_getElem?
      intro i
      rw [List.getElem?_map]
      cases c : ys[i]? with
      | none =>
        have : L[i]? = none := by
          rw [List.getElem?_eq_none_iff] at c ⊢
          omega
        rw [this]; rfl
      | some y =>
        obtain ⟨t, x, h1, rfl, h3, h4⟩ := hy i y c
        rw [h1]
        show some (decV H (.ref t)) = some x
        rw [decV_tup h4 (hL x (List.mem_of_getElem? h1))]
    have up : ∀ x ∈ L, x < 2 ^ 12 := fun x hx => Nat.lt_of_lt_of_le (hL x hx) (Nat.pow_le_pow_right (by decide) hn)
    have e2 : zs.map (decV H) = srtB L := by
      refine srtB_eq up ((pm.map _).trans (by rw [e1])) ?_
      rw [List.pairwise_map]
      refine pw.imp_of_mem fun {a b} ha hb h => ?_
      obtain ⟨t, x, h1, rfl, h3, h4⟩ := hm a (pm.mem_iff.mp ha)
      obtain ⟨u, z, h5, rfl, h7, h8⟩ := hm b (pm.mem_iff.mp hb)
      rw [keyAt_tup h4, keyAt_tup h8] at h
      rw [decV_tup h4 (hL x h1), decV_tup h8 (hL z h5)]
      unfold bI
      rw [bitsL_up (hL x h1) hn, bitsL_up (hL z h5) hn]
      exact h
    have a1 : Adv [] H (upd H p (.lst zs)) := Adv.new np
    refine q p zs _ np upd_same ?_ a1
    unfold setsD
    rw [← e2]
    refine IsDs.of_get (by rw [List.length_map, List.length_map]) fun j d v h1 h2 => ?_
    rw [List.getElem?_map, List.getElem?_map, h2] at h1
    have h1 : setD (decV H v) = d := by simpa using h1
    obtain ⟨t, x, g1, rfl, g3, g4⟩ := hm v (pm.mem_iff.mp (List.mem_of_getElem? h2))
    rw [← h1, decV_tup g4 (hL x g1)]
    unfold setD
    rw [bitsL_up (hL x g1) hn]
    exact Is.tp (.inl ⟨g3, a1.same _ _ g4⟩) (nD_is _)
end
end LL

set_option Elab.async false
set_option linter.all false
set_option maxRecDepth 100000
set_option maxHeartbeats 400000
/-! LIsA: isinstance of the held error in its suite, its class not yet known -/
namespace LL
open PySem PySem.Spec PyProof.Rows L2 L2H
def rIsA (K : PySem.W.Frag) (cls : Value) (a : Addr) (d : Option Addr) : List V → Hp → VK → Prop := fun xs H Q => ∃ (D : Addr), cls = .ref D ∧ ExcC K D ∧ rIsP K D a d xs H Q
theorem call_isA {X : Cx} (K : PySem.W.Frag) (hK : X.K = K) {a : Addr} {cls : Value} {oe : Obj} {d : Option Addr} (hz : Zc cls d oe) (hf : ∃ vs, oe.data = .fields vs) (hp : (a, oe) ∈ X.pn) : CallR X (.builtin "isinstance") (rIsA K cls a d) := by
  subst hK
  intro pins s σ H xs us Q I r h
  obtain ⟨D, rfl, C, h⟩ := h
  exact call_isP C hz hf hp pins s σ H xs us Q I r h
end LL

set_option Elab.async false
set_option linter.all false
set_option maxRecDepth 100000
set_option maxHeartbeats 4000000
namespace K89
open PySem PySem.Spec PyProof.Rows L2 LL
def top (i : Nat) : Stmt := PySem.Challenge.pw_provedorshown_k89_whole_least_crossing_s.main.body.getD i (.Pass ⟨0, 0, 0, 0⟩)
abbrev s_is_integer : Stmt := top 19
theorem sc_is_integer : FnScope ["value"] ["value"] (defScope s_is_integer) := ⟨rfl, rfl, rfl, by decide +kernel, rfl, by decide +kernel, by decide +kernel⟩
abbrev s_is_between : Stmt := top 20
theorem sc_is_between : FnScope ["value", "low", "high"] ["value", "low", "high"] (defScope s_is_between) := ⟨rfl, rfl, rfl, by decide +kernel, rfl, by decide +kernel, by decide +kernel⟩
abbrev s_are_any_rows : Stmt := top 21
theorem sc_are_any_rows : FnScope ["value", "count", "item"] ["value", "count"] (defScope s_are_any_rows) := ⟨rfl, rfl, rfl, by decide +kernel, rfl, by decide +kernel, by decide +kernel⟩
abbrev s_is_rising : Stmt := top 22
theorem sc_is_rising : FnScope ["values", "k"] ["values"] (defScope s_is_rising) := ⟨rfl, rfl, rfl, by decide +kernel, rfl, by decide +kernel, by decide +kernel⟩
abbrev s_are_rows : Stmt := top 23
theorem sc_are_rows : FnScope ["value", "count"] ["value", "count"] (defScope s_are_rows) := ⟨rfl, rfl, rfl, by decide +kernel, rfl, by decide +kernel, by decide +kernel⟩
abbrev s_check_between : Stmt := top 24
theorem sc_check_between : FnScope ["value", "low", "high", "name"] ["value", "low", "high", "name"] (defScope s_check_between) := ⟨rfl, rfl, rfl, by decide +kernel, rfl, by decide +kernel, by decide +kernel⟩
abbrev s_bits_of : Stmt := top 27
theorem sc_bits_of : FnScope ["numbers", "bits", "k"] ["numbers"] (defScope s_bits_of) := ⟨rfl, rfl, rfl, by decide +kernel, rfl, by decide +kernel, by decide +kernel⟩
abbrev s_numbers_in : Stmt := top 28
theorem sc_numbers_in : FnScope ["bits", "many", "k"] ["bits", "many"] (defScope s_numbers_in) := ⟨rfl, rfl, rfl, by decide +kernel, rfl, by decide +kernel, by decide +kernel⟩
abbrev s_least_crossing : Stmt := top 29
theorem sc_least_crossing : FnScope ["many", "sets", "found", "bits", "other", "less"] ["many", "sets"] (defScope s_least_crossing) := ⟨rfl, rfl, rfl, by decide +kernel, rfl, by decide +kernel, by decide +kernel⟩
abbrev s_listed : Stmt := top 30
theorem sc_listed : FnScope ["sets", "many", "bits"] ["sets", "many"] (defScope s_listed) := ⟨rfl, rfl, rfl, by decide +kernel, rfl, by decide +kernel, by decide +kernel⟩
abbrev s_crossing : Stmt := top 31
theorem sc_crossing : FnScope ["many", "sets", "numbers"] ["many", "sets"] (defScope s_crossing) := ⟨rfl, rfl, rfl, by decide +kernel, rfl, by decide +kernel, by decide +kernel⟩
abbrev s_law_stream : Stmt := top 33
theorem sc_law_stream : FnScope ["script"] ["script"] (defScope s_law_stream) := ⟨rfl, rfl, rfl, by decide +kernel, rfl, by decide +kernel, by decide +kernel⟩
abbrev s_law_next : Stmt := top 34
theorem sc_law_next : FnScope ["stream", "many", "k", "cell", "digit"] ["stream", "many"] (defScope s_law_next) := ⟨rfl, rfl, rfl, by decide +kernel, rfl, by decide +kernel, by decide +kernel⟩
abbrev s_law_pick : Stmt := top 35
theorem sc_law_pick : FnScope ["stream", "rows"] ["stream", "rows"] (defScope s_law_pick) := ⟨rfl, rfl, rfl, by decide +kernel, rfl, by decide +kernel, by decide +kernel⟩
abbrev s_law_from : Stmt := top 36
theorem sc_law_from : FnScope ["stream", "low", "high"] ["stream", "low", "high"] (defScope s_law_from) := ⟨rfl, rfl, rfl, by decide +kernel, rfl, by decide +kernel, by decide +kernel⟩
abbrev s_law_some : Stmt := top 37
theorem sc_law_some : FnScope ["stream", "rows", "share", "row"] ["stream", "rows", "share"] (defScope s_law_some) := ⟨rfl, rfl, rfl, by decide +kernel, rfl, by decide +kernel, by decide +kernel⟩
abbrev s_law_same : Stmt := top 38
theorem sc_law_same : FnScope ["actual", "due", "left", "turn", "one", "other", "at", "key"] ["actual", "due"] (defScope s_law_same) := ⟨rfl, rfl, rfl, by decide +kernel, rfl, by decide +kernel, by decide +kernel⟩
abbrev s_law_named : Stmt := top 39
theorem sc_law_named : FnScope ["error", "names", "fits"] ["error"] (defScope s_law_named) := ⟨rfl, rfl, rfl, by decide +kernel, rfl, by decide +kernel, by decide +kernel⟩
abbrev s_law_bits : Stmt := top 40
theorem sc_law_bits : FnScope ["rows", "total", "row"] ["rows"] (defScope s_law_bits) := ⟨rfl, rfl, rfl, by decide +kernel, rfl, by decide +kernel, by decide +kernel⟩
abbrev s_law_listed : Stmt := top 41
theorem sc_law_listed : FnScope ["bits", "many", "at"] ["bits", "many"] (defScope s_law_listed) := ⟨rfl, rfl, rfl, by decide +kernel, rfl, by decide +kernel, by decide +kernel⟩
abbrev s_law_least : Stmt := top 42
theorem sc_law_least : FnScope ["sets", "known", "other", "one"] ["sets"] (defScope s_law_least) := ⟨rfl, rfl, rfl, by decide +kernel, rfl, by decide +kernel, by decide +kernel⟩
abbrev s_law_crossing : Stmt := top 43
theorem sc_law_crossing : FnScope ["sets", "found", "told", "new", "one", "k"] ["sets"] (defScope s_law_crossing) := ⟨rfl, rfl, rfl, by decide +kernel, rfl, by decide +kernel, by decide +kernel⟩
abbrev s_law_tuples : Stmt := top 44
theorem sc_law_tuples : FnScope ["sets", "bits"] ["sets"] (defScope s_law_tuples) := ⟨rfl, rfl, rfl, by decide +kernel, rfl, by decide +kernel, by decide +kernel⟩
abbrev s_law_sets : Stmt := top 45
theorem sc_law_sets : FnScope ["stream", "many", "count", "share", "sets", "k", "kind", "told"] ["stream", "many"] (defScope s_law_sets) := ⟨rfl, rfl, rfl, by decide +kernel, rfl, by decide +kernel, by decide +kernel⟩
abbrev s_law_wrong_set : Stmt := top 46
theorem sc_law_wrong_set : FnScope ["stream", "many", "k"] ["stream", "many"] (defScope s_law_wrong_set) := ⟨rfl, rfl, rfl, by decide +kernel, rfl, by decide +kernel, by decide +kernel⟩
abbrev s_law_asked : Stmt := top 47
theorem sc_law_asked : FnScope ["many", "sets", "e"] ["many", "sets"] (defScope s_law_asked) := ⟨rfl, rfl, rfl, by decide +kernel, rfl, by decide +kernel, by decide +kernel⟩
abbrev s_law_refuses : Stmt := top 48
theorem sc_law_refuses : FnScope ["stream", "many", "sets", "bad", "at", "spoiled", "odd", "told"] ["stream", "many", "sets"] (defScope s_law_refuses) := ⟨rfl, rfl, rfl, by decide +kernel, rfl, by decide +kernel, by decide +kernel⟩
abbrev s_law : Stmt := top 49
theorem sc_law : FnScope ["script", "stream", "many", "sets", "told", "bits", "due", "passed"] ["script"] (defScope s_law) := ⟨rfl, rfl, rfl, by decide +kernel, rfl, by decide +kernel, by decide +kernel⟩
/-- the built-ins that the text does not name anew -/
structure Txt (K : PySem.W.Frag) (mg : Str → Option Value) : Prop where
  ValueError : mg "ValueError" = none
  abs : mg "abs" = none
  all : mg "all" = none
  any : mg "any" = none
  bool : mg "bool" = none
  dict : mg "dict" = none
  int : mg "int" = none
  isinstance : mg "isinstance" = none
  len : mg "len" = none
  list : mg "list" = none
  range : mg "range" = none
  set : mg "set" = none
  sorted : mg "sorted" = none
  str : mg "str" = none
  tuple : mg "tuple" = none
variable [KW]
/-- the constants of the top -/
structure Con (K : PySem.W.Frag) (mg : Str → Option Value) (w : World) : Prop where
  most : ∃ t, mg "MOST_CROSSED" = some (.int 12 t)
structure All (K : PySem.W.Frag) (mg : Str → Option Value) (w : World) where
  T : Txt K mg
  C : Con K mg w
  W : KWOk K w
  is_integer : Df K mg "is_integer" s_is_integer ["value"]
  is_between : Df K mg "is_between" s_is_between ["value", "low", "high"]
  are_any_rows : Df K mg "are_any_rows" s_are_any_rows ["value", "count"]
  is_rising : Df K mg "is_rising" s_is_rising ["values"]
  are_rows : Df K mg "are_rows" s_are_rows ["value", "count"]
  check_between : Df K mg "check_between" s_check_between ["value", "low", "high", "name"]
  bits_of : Df K mg "bits_of" s_bits_of ["numbers"]
  numbers_in : Df K mg "numbers_in" s_numbers_in ["bits", "many"]
  least_crossing : Df K mg "least_crossing" s_least_crossing ["many", "sets"]
  listed : Df K mg "listed" s_listed ["sets", "many"]
  crossing : Df K mg "crossing" s_crossing ["many", "sets"]
  law_stream : Df K mg "_law_stream" s_law_stream ["script"]
  law_next : Df K mg "_law_next" s_law_next ["stream", "many"]
  law_pick : Df K mg "_law_pick" s_law_pick ["stream", "rows"]
  law_from : Df K mg "_law_from" s_law_from ["stream", "low", "high"]
  law_some : Df K mg "_law_some" s_law_some ["stream", "rows", "share"]
  law_same : Df K mg "_law_same" s_law_same ["actual", "due"]
  law_named : Df K mg "_law_named" s_law_named ["error"]
  law_bits : Df K mg "_law_bits" s_law_bits ["rows"]
  law_listed : Df K mg "_law_listed" s_law_listed ["bits", "many"]
  law_least : Df K mg "_law_least" s_law_least ["sets"]
  law_crossing : Df K mg "_law_crossing" s_law_crossing ["sets"]
  law_tuples : Df K mg "_law_tuples" s_law_tuples ["sets"]
  law_sets : Df K mg "_law_sets" s_law_sets ["stream", "many"]
  law_wrong_set : Df K mg "_law_wrong_set" s_law_wrong_set ["stream", "many"]
  law_asked : Df K mg "_law_asked" s_law_asked ["many", "sets"]
  law_refuses : Df K mg "_law_refuses" s_law_refuses ["stream", "many", "sets"]
  law : Df K mg "law" s_law ["script"]
end K89

set_option Elab.async false
set_option linter.all false
set_option maxRecDepth 100000
set_option maxHeartbeats 4000000
namespace K89
open PySem PySem.Spec PyProof.Rows L2 LL
open C8 (pss_cut)
section
variable [KW]
variable {P : Program} {w : World} {K : PySem.W.Frag} {mg : Str → Option Value} {base : Heap}
/-! ### _law_stream -/
def spStream (K : PySem.W.Frag) : Sp := fun vs H Q _ => ∃ (a : Addr) (ns : List Int), vs = [.ref a] ∧ SqL K H a (ns.map V.int) ∧ ns.length ≤ 63 ∧
  ∀ s H', H s = none → StrAt [] H' s → Adv [] H H' → Q (.ref s) H'
theorem ok_law_stream (A : All K mg w) : FnOk P w K mg base CX0 1 A.law_stream.f A.law_stream.fd ["script"] (spStream K) := by
  refine A.law_stream.F.ok sc_law_stream (fun vs H Q E h => ?_) (fun cdv Ar outer s H vs Q E hr h => ?_)
  · obtain ⟨a, ns, rfl, _⟩ := h
    rfl
  · obtain ⟨a, ns, rfl, hS, hl, q⟩ := h
    refine ⟨_, pss_one (ps_ret (pe_lst (pa_cons (pe_callTy call_list_of (by rfl) A.T.list (by decide +kernel) (pa_cons (pv 0) pa_nil)) (pa_cons pe_int (pa_cons pe_int pa_nil))))), ?_⟩
    refine ⟨_, rfl, a, _, rfl, .inl hS, fun l nl => ?_⟩
    refine ⟨by show 3 ≤ sizeLine; decide, fun p np => ?_⟩
    have npl : l ≠ p := fun z => by rw [← z, upd_same] at np; cases np
    have np0 : H p = none := by rw [upd_ne npl.symm] at np; exact np
    refine q p _ np0 ⟨l, ns, 0, 0, upd_same, by rw [upd_ne npl, upd_same], Int.le_refl _, Int.le_refl _, by simp⟩ ?_
    exact Adv.trans (Adv.new nl) (Adv.new np)
/-! ### _law_next -/
def spNext : Sp := fun vs H Q _ => ∃ (s : Addr) (many : Int) (M : List Addr), vs = [.ref s, .int many] ∧ StrAt M H s ∧ 0 < many ∧ many < 1073741824 ∧
  ∀ d H', 0 ≤ d → d < many → StrAt M H' s → Adv [s] H H' → Q (.int d) H'
theorem ok_law_next (A : All K mg w) : FnOk P w K mg base CX0 1 A.law_next.f A.law_next.fd ["stream", "many"] spNext := by
  refine A.law_next.F.ok sc_law_next (fun vs H Q E h => ?_) (fun cdv Ar outer s H vs Q E hr h => ?_)
  · obtain ⟨a, ns, M, rfl, _⟩ := h
    rfl
  · obtain ⟨s, many, M, rfl, ⟨l, ns, c, k, hs, hl, hc, hk, hlM⟩, hm, hm2, q⟩ := h
    refine ⟨_, (pss_cut (ps_if (pt_cmpR op_eq (pe_ix ix_list (pv 0) pe_int (fun _ _ => rfl)) pe_int (nomark _))
      (pss_cons (ps_set (i := 2) sc_law_next.nd rfl (Or.inl rfl) (pe_ix ix_list (pv 0) pe_int (fun _ _ => rfl)))
      (pss_cons (ps_set (i := 3) sc_law_next.nd rfl (Or.inl rfl) (pe_op op_add pe_int (pv 2)))
      (pss_cut (ps_if (pt_cmpR op_lt (pv 2) (pe_callB call_len_seq (by rfl) A.T.len PySem.boot_len (pa_cons (pe_ix ix_list (pv 0) pe_int (fun _ _ => rfl)) pa_nil)) (nomark _))
        (pss_one (ps_set (i := 3) sc_law_next.nd rfl (Or.inl rfl) (pe_callB call_abs (by rfl) A.T.abs (by decide +kernel) (pa_cons (pe_ix ix_list (pe_ix ix_list (pv 0) pe_int (fun _ _ => rfl)) (pv 2) (fun _ _ => rfl)) pa_nil))))
        pss_nil)
      (pss_cut (ps_if (pt_cmpR op_lt (pv 3) (pe_op op_pow pe_int pe_int) (nomark _))
        (pss_cons (ps_set (i := 3) sc_law_next.nd rfl (Or.inl rfl) (pe_op op_mod (pe_callTy call_int1 (by rfl) A.T.int (by decide +kernel) (pa_cons (pe_op op_add (pe_op op_add (pe_op op_mul (pv 3) pe_int) (pe_op op_mul (pv 2) pe_int)) pe_int) pa_nil)) pe_int))
        (pss_one (ps_set (i := 3) sc_law_next.nd rfl (Or.inl rfl) (pe_op op_add (pe_op op_mul (pe_op op_mod (pe_callTy call_int1 (by rfl) A.T.int (by decide +kernel) (pa_cons (pe_op op_add (pe_op op_mul (pv 3) pe_int) pe_int) pa_nil)) pe_int) pe_int) (pv 3)))))
        pss_nil)
      (pss_cons (ps_asg (pv 3) (pg_sub (pv 0) pe_int set_list))
      (pss_one (ps_asg (pe_op op_add (pv 2) pe_int) (pg_sub (pv 0) pe_int set_list))))))))
      pss_nil)
      (pss_cons (ps_set (i := 4) sc_law_next.nd rfl (Or.inl rfl) (pe_op op_mod (pe_callTy call_int1 (by rfl) A.T.int (by decide +kernel) (pa_cons (pe_ix ix_list (pv 0) pe_int (fun _ _ => rfl)) pa_nil)) (pv 1)))
      (pss_cons (ps_asg (pe_op op_fdiv (pe_ix ix_list (pv 0) pe_int (fun _ _ => rfl)) (pv 1)) (pg_sub (pv 0) pe_int set_list))
      (pss_one (ps_ret (pv 4)))))), ?_⟩
    have at0 : ∀ c k : Int, atI [V.ref l, .int c, .int k] 0 = some (.ref l) := fun _ _ => atI_nat (j := 0) rfl
    have at1 : ∀ c k : Int, atI [V.ref l, .int c, .int k] 1 = some (.int c) := fun _ _ => atI_nat (j := 1) rfl
    have at2 : ∀ c k : Int, atI [V.ref l, .int c, .int k] 2 = some (.int k) := fun _ _ => atI_nat (j := 2) rfl
    have nls : l ≠ s := ne_of hl hs ne_lst_ints.symm
    refine ⟨fun σ' H' => ∃ (c k : Int) (v2 v3 : Option V), σ' = [some (.ref s), some (.int many), v2, v3, none] ∧ H' s = some (.lst [V.ref l, .int c, .int k]) ∧ 0 ≤ c ∧ 0 ≤ k ∧ Adv [s] H H', ?_, ?_⟩
    · refine ⟨_, rfl, s, _, 1, _, rfl, rfl, SqL.of hs, at1 c k, rfl, _, rfl, ?_⟩
      refine iteB (fun e => ?_) (fun e => ⟨c, k, none, none, rfl, hs, hc, hk, Adv.refl _ _⟩)
      -- a new cell
      refine ⟨_, rfl, s, _, 2, _, rfl, rfl, SqL.of hs, at2 c k, ?_⟩
      refine ⟨_, rfl, 7, k, rfl, rfl, ?_⟩
      refine ⟨fun σ' H' => ∃ c1 : Int, σ' = [some (.ref s), some (.int many), some (.int k), some (.int c1), none] ∧ H = H' ∧ 0 ≤ c1, ?_, ?_⟩
      · refine ⟨_, rfl, _, rfl, s, _, 0, _, rfl, rfl, SqL.of hs, at0 c k, l, _, rfl, .inl (SqL.of hl), k, _, rfl, rfl, _, rfl, ?_⟩
        refine iteB (fun e => ?_) (fun e => ⟨7 + k, rfl, rfl, by omega⟩)
        have hlt : k < ns.length := by simpa using e
        obtain ⟨j, rfl⟩ : ∃ j : Nat, k = (j : Int) := ⟨k.toNat, by omega⟩
        have hj : j < ns.length := by omega
        have hg : (ns.map V.int)[j]? = some (.int ns[j]) := by simp [hj]
        refine ⟨_, rfl, s, _, 0, _, rfl, rfl, SqL.of hs, at0 c _, _, rfl, l, _, (j : Int), _, rfl, rfl, SqL.of hl, atI_nat hg, _, rfl, ?_⟩
        refine ⟨_, rfl, rfl, ?_⟩
        split <;> omega
      · rintro σ' H' ⟨c1, rfl, rfl, hc1⟩
        refine ⟨fun σ' H' => ∃ c1 : Int, σ' = [some (.ref s), some (.int many), some (.int k), some (.int c1), none] ∧ H = H' ∧ 0 ≤ c1, ?_, ?_⟩
        · refine ⟨_, rfl, 10, 18, rfl, rfl, ⟨by decide, by decide, by decide⟩, c1, _, rfl, rfl, _, rfl, ?_⟩
          refine iteB (fun e => ?_) (fun e => ⟨c1, rfl, rfl, hc1⟩)
          refine ⟨_, rfl, c1, 48271, rfl, rfl, .inr ⟨by decide, by decide⟩, _, rfl, k, 69621, rfl, rfl, .inr ⟨by decide, by decide⟩, _, _, rfl, rfl, _, _, rfl, rfl, .inl ⟨_, rfl, _, 2147483647, rfl, rfl, by show (0 : Int) < 2147483647; decide, ?_⟩⟩
          refine ⟨_, rfl, _, 16807, rfl, rfl, .inr ⟨by decide, by decide⟩, _, _, rfl, rfl, .inl ⟨_, rfl, _, 2147483647, rfl, rfl, by show (0 : Int) < 2147483647; decide, ?_⟩⟩
          refine ⟨_, _, rfl, rfl, .inr ⟨by decide, by decide⟩, _, rfl, _, _, rfl, rfl, ?_⟩
          refine ⟨_, rfl, rfl, ?_⟩
          omega
        · rintro σ' H' ⟨c2, rfl, rfl, hc2⟩
          refine ⟨_, rfl, _, rfl, s, _, 1, 1, rfl, rfl, hs, rfl, ?_⟩
          refine ⟨_, rfl, k, 1, rfl, rfl, _, rfl, s, _, 2, 2, rfl, rfl, upd_same, rfl, ?_⟩
          refine ⟨c2, k + 1, _, _, rfl, ?_, hc2, by omega, ?_⟩
          · rw [upd_same]
            rfl
          · exact ((Adv.refl _ _).setT (by simp)).setT (by simp)
    · rintro σ' H1 ⟨c, k, v2, v3, rfl, h1, hc, hk, a⟩
      refine ⟨_, rfl, s, _, 1, _, rfl, rfl, SqL.of h1, at1 c k, .inl ⟨c, rfl, _, rfl, c, many, rfl, rfl, hm, ?_⟩⟩
      refine ⟨_, rfl, s, _, 1, _, rfl, rfl, SqL.of h1, at1 c k, _, rfl, c, many, rfl, rfl, ⟨hm, hm2⟩, ?_⟩
      refine ⟨_, rfl, s, _, 1, 1, rfl, rfl, h1, rfl, ?_⟩
      refine ⟨_, rfl, ?_⟩
      have hl1 : H1 l = some (.lst (ns.map V.int)) := a _ _ (by simpa using nls) hl
      refine q _ _ (Int.emod_nonneg _ (Int.ne_of_gt hm)) (Int.emod_lt_of_pos _ hm) ⟨l, ns, c / many, k, upd_same, by rw [upd_ne nls]; exact hl1, Int.ediv_nonneg hc (Int.le_of_lt hm), hk, hlM⟩ ?_
      exact a.setT (by simp)
/-! ### _law_pick: out of a list, out of a tuple -/
def spPick : Sp := fun vs H Q _ => ∃ (s r : Addr) (xs : List V) (M : List Addr), vs = [.ref s, .ref r] ∧ StrAt M H s ∧ (H r = some (.lst xs) ∨ H r = some (.tup xs)) ∧ r ≠ s ∧ xs ≠ [] ∧ xs.length < 1073741824 ∧
  ∀ x H', x ∈ xs → StrAt M H' s → Adv [s] H H' → Q x H'
theorem ok_law_pick (A : All K mg w) : FnOk P w K mg base CX0 2 A.law_pick.f A.law_pick.fd ["stream", "rows"] spPick := by
  refine A.law_pick.F.ok sc_law_pick (fun vs H Q E h => ?_) (fun cdv Ar outer s H vs Q E hr h => ?_)
  · obtain ⟨s, r, xs, M, rfl, _⟩ := h
    rfl
  · obtain ⟨s, r, xs, M, rfl, hs, hx, nrs, hne, hl, q⟩ := h
    refine ⟨_, pss_one (ps_ret (pe_ix (ix_or ix_list ix_tup) (pv 1) (pe_call (ok_law_next A) (hr.mono (by decide)) rfl A.law_next.m A.law_next.F.kp A.law_next.b .nil pass0 (pa_cons (pv 0) (pa_cons (pe_callB call_len_seq (by rfl) A.T.len PySem.boot_len (pa_cons (pv 1) pa_nil)) pa_nil))) (fun _ _ => rfl))), ?_⟩
    have hpos : 0 < xs.length := List.length_pos_iff.mpr hne
    refine ⟨_, rfl, _, rfl, _, rfl, r, xs, rfl, ?_, s, _, M, rfl, hs, by omega, by omega, fun d H' h0 h1 hs' a => ?_⟩
    · rcases hx with h | h
      · exact .inl (SqL.of h)
      · exact .inr (SqT.of h)
    · obtain ⟨j, rfl⟩ : ∃ j : Nat, d = (j : Int) := ⟨d.toNat, by omega⟩
      have hj : j < xs.length := by omega
      have hg : xs[j]? = some xs[j] := List.getElem?_eq_getElem hj
      have nm : r ∉ [s] := by simpa using nrs
      rcases hx with h | h
      · exact .inl ⟨r, xs, j, xs[j], rfl, rfl, SqL.of (a _ _ nm h), atI_nat hg, q _ _ (List.getElem_mem hj) hs' a⟩
      · exact .inr ⟨r, xs, j, xs[j], rfl, rfl, SqT.of (a _ _ nm h), atI_nat hg, q _ _ (List.getElem_mem hj) hs' a⟩
/-! ### _law_from -/
def spFrom : Sp := fun vs H Q _ => ∃ (s : Addr) (lo hi : Int) (M : List Addr), vs = [.ref s, .int lo, .int hi] ∧ StrAt M H s ∧ lo ≤ hi ∧ hi - lo < 1073741823 ∧
  ∀ d H', lo ≤ d → d ≤ hi → StrAt M H' s → Adv [s] H H' → Q (.int d) H'
theorem ok_law_from (A : All K mg w) : FnOk P w K mg base CX0 2 A.law_from.f A.law_from.fd ["stream", "low", "high"] spFrom := by
  refine A.law_from.F.ok sc_law_from (fun vs H Q E h => ?_) (fun cdv Ar outer s H vs Q E hr h => ?_)
  · obtain ⟨s, lo, hi, M, rfl, _⟩ := h
    rfl
  · obtain ⟨s, lo, hi, M, rfl, hs, h1, h2, q⟩ := h
    refine ⟨_, pss_one (ps_ret (pe_op op_add (pv 1) (pe_call (ok_law_next A) (hr.mono (by decide)) rfl A.law_next.m A.law_next.F.kp A.law_next.b .nil pass0 (pa_cons (pv 0) (pa_cons (pe_op op_add (pe_op op_sub (pv 2) (pv 1)) pe_int) pa_nil))))), ?_⟩
    refine ⟨_, rfl, _, rfl, _, rfl, _, rfl, hi, lo, rfl, rfl, _, _, rfl, rfl, s, _, M, rfl, hs, by omega, by omega, fun d H' h0 h1 hs' a => ?_⟩
    exact ⟨lo, d, rfl, rfl, q _ _ (by omega) (by omega) hs' a⟩
end
end K89

set_option Elab.async false
set_option linter.all false
set_option maxRecDepth 100000
set_option maxHeartbeats 4000000
namespace K89
open PySem PySem.Spec PyProof.Rows L2 LL
open C8 (pss_cut)
section
variable [KW]
variable {P : Program} {w : World} {K : PySem.W.Frag} {mg : Str → Option Value} {base : Heap}
/-! ### is_integer, is_between -/
def spIsInteger : Sp := fun vs H Q _ => ∃ (v : V) (d : PyData), vs = [v] ∧ Is [] H d v ∧ Q (.bl (kitD d "int" && !kitD d "bool")) H
theorem ok_is_integer (A : All K mg w) : FnOk P w K mg base CX0 1 A.is_integer.f A.is_integer.fd ["value"] spIsInteger := by
  refine A.is_integer.F.ok sc_is_integer (fun vs H Q E h => ?_) (fun cdv Ar outer s H vs Q E hr h => ?_)
  · obtain ⟨v, d, rfl, _⟩ := h
    rfl
  · obtain ⟨v, d, rfl, hv, q⟩ := h
    refine ⟨_, (pss_one (ps_ret (pe_and (pe_callB call_isi (by rfl) A.T.isinstance (by decide +kernel) (pa_cons (pv 0) (pa_cons (pe_bltn (v := .ty "int") (by rfl) A.T.int (by decide +kernel) rfl) pa_nil))) (pe_one (pe_not (pe_callB call_isi (by rfl) A.T.isinstance (by decide +kernel) (pa_cons (pv 0) (pa_cons (pe_bltn (v := .ty "bool") (by rfl) A.T.bool (by decide +kernel) rfl) pa_nil)))))))), ?_⟩
    refine ⟨_, rfl, _, _, _, _, _, rfl, .ty _, hv.ty A.W, k_int d, _, rfl, iteB (fun e => ?_) (fun e => ?_)⟩
    · refine ⟨_, rfl, _, _, _, _, _, rfl, .ty _, hv.ty A.W, k_bool d, _, rfl, ?_⟩
      rw [e, Bool.true_and] at q
      exact q
    · rw [e, Bool.false_and] at q
      exact q
theorem isNum_of (d : PyData) (lo hi : Int) : (if (kitD d "int" && !kitD d "bool") = true then isNum lo hi d else false) = isNum lo hi d := by
  cases d <;> simp [kitD, isNum, tyN]
def spIsBetween : Sp := fun vs H Q _ => ∃ (v : V) (d : PyData) (lo hi : Int), vs = [v, .int lo, .int hi] ∧ Is [] H d v ∧ Q (.bl (isNum lo hi d)) H
theorem ok_is_between (A : All K mg w) : FnOk P w K mg base CX0 2 A.is_between.f A.is_between.fd ["value", "low", "high"] spIsBetween := by
  refine A.is_between.F.ok sc_is_between (fun vs H Q E h => ?_) (fun cdv Ar outer s H vs Q E hr h => ?_)
  · obtain ⟨v, d, lo, hi, rfl, _⟩ := h
    rfl
  · obtain ⟨v, d, lo, hi, rfl, hv, q⟩ := h
    refine ⟨_, (pss_one (ps_ret (pe_and (pe_call (ok_is_integer A) (hr.mono (by decide)) rfl A.is_integer.m A.is_integer.F.kp A.is_integer.b .nil pass0 (pa_cons (pv 0) pa_nil)) (pe_one (pe_chain op_le op_le (pv 1) (pv 0) (pv 2)))))), ?_⟩
    rw [← isNum_of] at q
    refine ⟨_, rfl, v, d, rfl, hv, _, rfl, iteB (fun e => ?_) (fun e => ?_)⟩
    · rw [if_pos e] at q
      cases d with
      | int i =>
        cases hv.intE
        refine ⟨_, rfl, _, rfl, lo, i, rfl, rfl, _, rfl, iteB (fun e1 => ?_) (fun e1 => ?_)⟩
        · refine ⟨_, rfl, i, hi, rfl, rfl, ?_⟩
          have q' : Q (.bl (decide (lo ≤ i) && decide (i ≤ hi))) H := q
          rw [e1, Bool.true_and] at q'
          exact q'
        · have q' : Q (.bl (decide (lo ≤ i) && decide (i ≤ hi))) H := q
          rw [e1, Bool.false_and] at q'
          exact q'
      | _ => simp [kitD, tyN] at e
    · rw [if_neg (by rw [e]; decide)] at q
      exact q
/-! ### _law_number -/
/-! ### is_boxed, _law_is_boxed, check_logic of a right logic -/
def logicB (x : Str) : Bool := x = "k" || x = "s4" || x = "gl"
def logicOk (x : Str) : Bool := x = "classical" || x = "intuit" || x = "k" || x = "s4" || x = "gl"
theorem inV_strs (x : Str) (ws : List Str) : inV (.str x) (ws.map V.str) = ws.any fun y => decide (x = y) := by
  unfold inV
  rw [List.any_map]
  congr 1
  funext y
  show (y == x) = decide (x = y)
  by_cases h : x = y
  · subst h; simp
  · have h2 : ¬ y = x := fun z => h z.symm
    simp [h, h2]
def spIsBoxed : Sp := fun vs H Q _ => ∃ (x : Str), vs = [.str x] ∧ ∀ H', Adv [] H H' → Q (.bl (logicB x)) H'
end
end K89

set_option Elab.async false
set_option linter.all false
set_option maxRecDepth 100000
set_option maxHeartbeats 4000000
namespace K89
open PySem PySem.Spec PyProof.Rows L2 LL
open C8 (pss_cut)
def prD (d : PyData) : PyData := .tuple [d, d]
section
variable [KW]
variable {P : Program} {w : World} {K : PySem.W.Frag} {mg : Str → Option Value} {base : Heap}
def spSame : Sp := fun vs H Q _ => ∃ (v1 v2 : V) (d : PyData), vs = [v1, v2] ∧ Is [] H d v1 ∧ Is [] H d v2 ∧ sz d ≤ 1000000 ∧ ∀ H', Adv [] H H' → Q (.bl true) H'
theorem ok_law_same (A : All K mg w) : FnOk P w K mg base CX0 1 A.law_same.f A.law_same.fd ["actual", "due"] spSame := by
  refine A.law_same.F.ok sc_law_same (fun vs H Q E h => ?_) (fun cdv Ar outer s H vs Q E hr h => ?_)
  · obtain ⟨v1, v2, d, rfl, _⟩ := h
    rfl
  · obtain ⟨v1, v2, d0, rfl, h1, h2, hz, q⟩ := h
    refine ⟨_, (pss_cons (ps_set (i := 2) sc_law_same.nd rfl (Or.inl rfl) (pe_lst (pa_cons (pe_tup (pa_cons (pv 0) (pa_cons (pv 1) pa_nil))) pa_nil)))
  (pss_cons (ps_for PassesOwn.never rfl (pi_range1 rfl A.T.range (pa_cons pe_int pa_nil)) (pg_name (i := 3) sc_law_same.nd rfl (Or.inl rfl))
    (pss_cons (ps_if (pt_cmpR op_eq (pe_callB call_len_seq (by rfl) A.T.len PySem.boot_len (pa_cons (pv 2) pa_nil)) pe_int (nomark _))
    (pss_one (ps_ret pe_bl))
    pss_nil)
  (pss_cons (ps_asg (pe_bm0 PySem.F.plainAttrs_list PySem.F.slot_list_pop PySem.F.type_list_pop mt_pop (pv 2)) (pg_tup rfl (pgs_cons (pg_name (i := 4) sc_law_same.nd rfl (Or.inr rfl)) (pgs_cons (pg_name (i := 5) sc_law_same.nd rfl (Or.inr rfl)) pgs_nil))))
  (pss_one (ps_if (PW.pt (pw_or (pt_val (pe_callB call_isi (by rfl) A.T.isinstance (by decide +kernel) (pa_cons (pv 5) (pa_cons (pe_bltn (v := .ty "tuple") (by rfl) A.T.tuple (by decide +kernel) rfl) pa_nil)))) (pw_or1 (pt_val (pe_callB call_isi (by rfl) A.T.isinstance (by decide +kernel) (pa_cons (pv 5) (pa_cons (pe_bltn (v := .ty "list") (by rfl) A.T.list (by decide +kernel) rfl) pa_nil)))))))
    (pss_cons (ps_if (PW.pt (pw_or (pt_cmpR op_ne (pe_callB call_isi (by rfl) A.T.isinstance (by decide +kernel) (pa_cons (pv 5) (pa_cons (pe_bltn (v := .ty "tuple") (by rfl) A.T.tuple (by decide +kernel) rfl) pa_nil))) (pe_callB call_isi (by rfl) A.T.isinstance (by decide +kernel) (pa_cons (pv 4) (pa_cons (pe_bltn (v := .ty "tuple") (by rfl) A.T.tuple (by decide +kernel) rfl) pa_nil))) (nomark _)) (pw_or (pt_cmpR op_ne (pe_callB call_isi (by rfl) A.T.isinstance (by decide +kernel) (pa_cons (pv 5) (pa_cons (pe_bltn (v := .ty "list") (by rfl) A.T.list (by decide +kernel) rfl) pa_nil))) (pe_callB call_isi (by rfl) A.T.isinstance (by decide +kernel) (pa_cons (pv 4) (pa_cons (pe_bltn (v := .ty "list") (by rfl) A.T.list (by decide +kernel) rfl) pa_nil))) (nomark _)) (pw_or1 (pt_cmpR op_ne (pe_callB (call_or call_len_seq call_lenD) (by rfl) A.T.len PySem.boot_len (pa_cons (pv 4) pa_nil)) (pe_callB (call_or call_len_seq call_lenD) (by rfl) A.T.len PySem.boot_len (pa_cons (pv 5) pa_nil)) (nomark _))))))
    (pss_one (ps_ret pe_bl))
    pss_nil)
  (pss_one (ps_expr (pe_bm PySem.F.plainAttrs_list PySem.F.slot_list_extend PySem.F.type_list_extend mt_extend (pv 2) (pa_cons (pe_lc (own := [("at", 6)]) (g := gName 6) rfl sc_law_same.nd (pi_range1 rfl A.T.range (pa_cons (pe_callB (call_or call_len_seq call_lenD) (by rfl) A.T.len PySem.boot_len (pa_cons (pv 5) pa_nil)) pa_nil)) (blkOk_by (own := [("at", 6)]) (N := ["actual", "due", "left", "turn", "one", "other", "at", "key"]) (sc := defScope s_law_same) (by decide +kernel)) (fun _ _ _ _ _ => pg_name (i := 6) sc_law_same.nd rfl (Or.inl rfl)) (fun _ _ _ _ _ => pts_nil) (fun _ _ _ _ _ => (pe_tup (pa_cons (pe_ix (ix_any K rfl) (pv 4) (pv 6) (fun _ _ => rfl)) (pa_cons (pe_ix (ix_any K rfl) (pv 5) (pv 6) (fun _ _ => rfl)) pa_nil))))) pa_nil)))))
    (pss_one (ps_if (pt_val (pe_callB call_isi (by rfl) A.T.isinstance (by decide +kernel) (pa_cons (pv 5) (pa_cons (pe_bltn (v := .ty "dict") (by rfl) A.T.dict (by decide +kernel) rfl) pa_nil))))
    (pss_cons (ps_if (PW.pt (pw_or (pt_not (pt_val (pe_callB call_isi (by rfl) A.T.isinstance (by decide +kernel) (pa_cons (pv 4) (pa_cons (pe_bltn (v := .ty "dict") (by rfl) A.T.dict (by decide +kernel) rfl) pa_nil))))) (pw_or (pt_cmpR op_ne (pe_callB (call_or call_len_seq call_lenD) (by rfl) A.T.len PySem.boot_len (pa_cons (pv 4) pa_nil)) (pe_callB (call_or call_len_seq call_lenD) (by rfl) A.T.len PySem.boot_len (pa_cons (pv 5) pa_nil)) (nomark _)) (pw_or1 (pt_cmpR op_gt (pe_callB call_len_seq (by rfl) A.T.len PySem.boot_len (pa_cons (pe_lock (pe_lc (own := [("key", 7)]) (g := gName 7) rfl sc_law_same.nd (pi_keys (pv 5)) (blkOk_by (own := [("key", 7)]) (N := ["actual", "due", "left", "turn", "one", "other", "at", "key"]) (sc := defScope s_law_same) (by decide +kernel)) (fun _ _ _ _ _ => pg_name (i := 7) sc_law_same.nd rfl (Or.inl rfl)) (fun _ _ _ _ _ => pts_one pt_never) (fun _ _ _ _ _ => pe_never))) pa_nil)) pe_int (nomark _))))))
    (pss_one (ps_ret pe_bl))
    pss_nil)
  (pss_one (ps_expr (pe_bm PySem.F.plainAttrs_list PySem.F.slot_list_extend PySem.F.type_list_extend mt_extend (pv 2) (pa_cons (pe_lock (pe_lc (own := [("key", 7)]) (g := gName 7) rfl sc_law_same.nd (pi_keys (pv 5)) (blkOk_by (own := [("key", 7)]) (N := ["actual", "due", "left", "turn", "one", "other", "at", "key"]) (sc := defScope s_law_same) (by decide +kernel)) (fun _ _ _ _ _ => pg_name (i := 7) sc_law_same.nd rfl (Or.inl rfl)) (fun _ _ _ _ _ => pts_nil) (fun _ _ _ _ _ => pe_never))) pa_nil)))))
    (pss_one (ps_if (PW.pt (pw_or (pt_val (pe_callB call_isi (by rfl) A.T.isinstance (by decide +kernel) (pa_cons (pv 5) (pa_cons (pe_bltn (v := .ty "bool") (by rfl) A.T.bool (by decide +kernel) rfl) pa_nil)))) (pw_or1 (pt_val (pe_callB call_isi (by rfl) A.T.isinstance (by decide +kernel) (pa_cons (pv 5) (pa_cons (pe_bltn (v := .ty "str") (by rfl) A.T.str (by decide +kernel) rfl) pa_nil)))))))
    (pss_one (ps_if (PW.pt (pw_or (pt_cmpR op_ne (pe_callB call_isi (by rfl) A.T.isinstance (by decide +kernel) (pa_cons (pv 4) (pa_cons (pe_bltn (v := .ty "bool") (by rfl) A.T.bool (by decide +kernel) rfl) pa_nil))) (pe_callB call_isi (by rfl) A.T.isinstance (by decide +kernel) (pa_cons (pv 5) (pa_cons (pe_bltn (v := .ty "bool") (by rfl) A.T.bool (by decide +kernel) rfl) pa_nil))) (nomark _)) (pw_or (pt_cmpR op_ne (pe_callB call_isi (by rfl) A.T.isinstance (by decide +kernel) (pa_cons (pv 4) (pa_cons (pe_bltn (v := .ty "str") (by rfl) A.T.str (by decide +kernel) rfl) pa_nil))) (pe_callB call_isi (by rfl) A.T.isinstance (by decide +kernel) (pa_cons (pv 5) (pa_cons (pe_bltn (v := .ty "str") (by rfl) A.T.str (by decide +kernel) rfl) pa_nil))) (nomark _)) (pw_or1 (pt_cmpR op_ne (pv 4) (pv 5) (nomark _))))))
    (pss_one (ps_ret pe_bl))
    pss_nil))
    (pss_one (ps_if (pt_val (pe_callB call_isi (by rfl) A.T.isinstance (by decide +kernel) (pa_cons (pv 5) (pa_cons (pe_bltn (v := .ty "int") (by rfl) A.T.int (by decide +kernel) rfl) pa_nil))))
    (pss_one (ps_if (PW.pt (pw_or (pt_not (pt_val (pe_callB call_isi (by rfl) A.T.isinstance (by decide +kernel) (pa_cons (pv 4) (pa_cons (pe_bltn (v := .ty "int") (by rfl) A.T.int (by decide +kernel) rfl) pa_nil))))) (pw_or (pt_val (pe_callB call_isi (by rfl) A.T.isinstance (by decide +kernel) (pa_cons (pv 4) (pa_cons (pe_bltn (v := .ty "bool") (by rfl) A.T.bool (by decide +kernel) rfl) pa_nil)))) (pw_or1 (pt_cmpR op_ne (pv 4) (pv 5) (nomark _))))))
    (pss_one (ps_ret pe_bl))
    pss_nil))
    (pss_one (ps_if (pt_cmpR op_notN (pv 4) pe_non (nomark _))
    (pss_one (ps_ret pe_bl))
    pss_nil)))))))))))))
  (pss_one (ps_ret pe_bl)))), ?_⟩
    refine ⟨_, rfl, _, rfl, by show 2 ≤ sizeLine; decide, fun t nt => ⟨by show 1 ≤ sizeLine; decide, fun L nL => ?_⟩⟩
    have nL0 : H L = none := by
      by_cases e : L = t
      · rw [e]; exact nt
      · rw [upd_ne e] at nL; exact nL
    have ntL : t ≠ L := fun z => by rw [← z, upd_same] at nL; cases nL
    have aI : Adv [] H (upd (upd H t (.tup [v1, v2])) L (.lst [.ref t])) := (Adv.new nt).trans (Adv.new nL)
    refine ⟨2000000, rfl, by decide, by decide, for_range (lo := 0) (n := (2000000 : Int).toNat) (fun i σ' H' => ∃ (ds : List PyData) (vs : List V) (x3 x4 x5 : Option V), σ' = [some v1, some v2, some (.ref L), x3, x4, x5, none, none] ∧ Adv [] H H' ∧ H' L = some (.lst vs) ∧ IsDs [L] H' (ds.map prD) vs ∧ szL ds + i ≤ 1000000)
      ⟨[d0], [.ref t], none, none, none, rfl, aI, upd_same, ?_, ?_⟩ ?_ ?_⟩
    · have f1 := ((h1.fresh nL0).less (N := [L]) (by simp)).adv (aI.more (by simp))
      have f2 := ((h2.fresh nL0).less (N := [L]) (by simp)).adv (aI.more (by simp))
      exact IsDs.one (Is.tup (by rw [upd_ne ntL, upd_same]) (by simpa using ntL) (.cons f1 (IsDs.one f2)))
    · rw [szL_cons, szL_nil]
      omega
    · rintro i σ' H' hi ⟨ds, vs, x3, x4, x5, rfl, a', hL, hds, hsz⟩
      refine ⟨_, rfl, L, vs, rfl, .inl (SqL.of hL), rfl, _, rfl, ?_⟩
      rcases List.eq_nil_or_concat ds with rfl | ⟨ds', d, rfl⟩
      · have e0 : vs = [] := by unfold IsDs at hds; exact hds
        subst e0
        exact iteY rfl (q _ a')
      rw [List.concat_eq_append] at hds hsz
      rw [List.map_append] at hds
      obtain ⟨ws, v, rfl, hws, hv⟩ := IsDs.last (d := prD d) hds
      refine iteN (by simp; omega) ?_
      refine ⟨_, rfl, .inl ⟨rfl, _, SqL.of hL⟩, L, ws ++ [v], v, rfl, rfl, hL, by simp, ?_⟩
      rw [List.dropLast_concat]
      obtain ⟨tp, u1, u2, rfl, htp, hu1, hu2⟩ := hv.pair
      have aL : Adv [L] H' (upd H' L (.lst ws)) := Adv.set (by simp)
      have a2 : Adv [] H (upd H' L (.lst ws)) := a'.mut nL0
      have htp2 := htp.adv aL
      replace hu1 := hu1.adv aL
      replace hu2 := hu2.adv aL
      replace hws := hws.adv aL
      have hL2 : (upd H' L (.lst ws)) L = some (.lst ws) := upd_same
      have hwl := hws.len
      rw [szL_app, szL_cons, szL_nil] at hsz
      have szle : ∀ l : List PyData, l.length ≤ szL l := fun l => by
        induction l with
        | nil => exact Nat.zero_le _
        | cons c r ih =>
          rw [szL_cons, List.length_cons]
          have := sz_pos c
          omega
      have hdl := szle ds'
      rw [List.length_map] at hwl
      generalize upd H' L (.lst ws) = H2 at *
      have fin : ∀ (x3 x4 x5 : Option V) (H3 : Hp), Adv [] H2 H3 → ∃ (ds : List PyData) (vs : List V) (y3 y4 y5 : Option V), [some v1, some v2, some (.ref L), x3, x4, x5, none, none] = [some v1, some v2, some (.ref L), y3, y4, y5, none, none] ∧ Adv [] H H3 ∧ H3 L = some (.lst vs) ∧ IsDs [L] H3 (ds.map prD) vs ∧ szL ds + (i + 1) ≤ 1000000 := fun x3 x4 x5 H3 a3 =>
        ⟨ds', ws, x3, x4, x5, rfl, a2.trans a3, a3.same _ _ hL2, hws.adv (a3.more (by simp)), by have := sz_pos d; omega⟩
      refine ⟨tp, [u1, u2], rfl, htp2.sq A.W, rfl, _, _, rfl, _, _, rfl, rfl, ?_⟩
      cases d with
      | list cs =>
        refine ⟨_, rfl, _, _, _, _, _, rfl, .ty _, hu2.ty A.W, k_tuple _, _, rfl, ?_⟩
        refine iteN (by simp [kitD, tyN]) ?_
        refine ⟨_, rfl, _, _, _, _, _, rfl, .ty _, hu2.ty A.W, k_list _, _, rfl, iteY (by simp [kitD, tyN]) ?_⟩
        obtain ⟨b1, r1, rfl, nb1, hb1, hr1⟩ := hu1.lstE
        obtain ⟨b2, r2, rfl, nb2, hb2, hr2⟩ := hu2.lstE
        have hl1 := hr1.len
        have hl2 := hr2.len
        have szc : sz (.list cs) = 1 + szL cs := by rw [sz]
        have hcl := szle cs
        refine ⟨_, rfl, _, _, _, _, _, rfl, .ty _, hu2.ty A.W, k_tuple _, _, rfl, _, _, _, _, _, rfl, .ty _, hu1.ty A.W, k_tuple _, rfl, _, rfl, iteN (by simp) ?_⟩
        refine ⟨_, rfl, _, _, _, _, _, rfl, .ty _, hu2.ty A.W, k_list _, _, rfl, _, _, _, _, _, rfl, .ty _, hu1.ty A.W, k_list _, rfl, _, rfl, iteN (by simp) ?_⟩
        refine ⟨_, rfl, .inl ⟨b1, r1, rfl, .inl (SqL.of hb1), _, rfl, .inl ⟨b2, r2, rfl, .inl (SqL.of hb2), rfl, _, rfl, iteN (by simp [hl1, hl2]) ?_⟩⟩⟩
        refine ⟨_, rfl, .inl ⟨rfl, _, SqL.of hL2⟩, _, rfl, .inl ⟨b2, r2, rfl, .inl (SqL.of hb2), (r2.length : Int), rfl, by omega, by omega, fun D nD => ?_⟩⟩
        refine lc_dataR (M := [L]) (n := (r2.length : Int).toNat) (cs.map prD) (by simp [hl2]) nD (by simp [hl2]; omega) ?_ ?_
        · intro j dj H3 acc R hj a3 hD k
          have hjl : j < cs.length := by
            have := (List.getElem?_eq_some_iff.mp hj).1
            simpa using this
          have e0 : (0 : Int) + (j : Nat) = (j : Int) := by omega
          rw [e0]
          obtain ⟨w1, hw1, iw1⟩ := hr1.get (List.getElem?_eq_getElem hjl)
          obtain ⟨w2, hw2, iw2⟩ := hr2.get (List.getElem?_eq_getElem hjl)
          have ed : prD cs[j] = dj := by simpa [hjl] using hj
          refine ⟨rfl, _, rfl, _, rfl, .inl ⟨b1, r1, (j : Int), w1, rfl, rfl, SqL.of (a3.same _ _ hb1), atI_nat hw1, _, rfl, _, rfl, .inl ⟨b2, r2, (j : Int), w2, rfl, rfl, SqL.of (a3.same _ _ hb2), atI_nat hw2, by show 2 ≤ sizeLine; decide, fun T nT => ?_⟩⟩⟩
          have nDT : T ≠ D := (ne_of_none hD nT).symm
          have nLT : T ≠ L := (ne_of_none (a3.same _ _ hL2) nT).symm
          refine k _ _ (by rw [upd_ne nDT.symm]; exact hD) (Adv.new nT) ?_
          rw [← ed]
          have aa : Adv [D, L] H2 (upd H3 T (.tup [w1, w2])) := (a3.more (by simp)).trans (Adv.new nT)
          have g1 : Is [D, L] H2 cs[j] w1 := iw1.fresh nD
          have g2 : Is [D, L] H2 cs[j] w2 := iw2.fresh nD
          exact Is.tup upd_same (by simp [nDT, nLT]) (.cons (g1.adv aa) (IsDs.one (g2.adv aa)))
        · intro H3 acc a3 hD hacc
          have hal := hacc.len
          rw [List.length_map] at hal
          have hL3 := a3.same _ _ hL2
          have nDL : D ≠ L := (ne_of_none hL2 nD).symm
          refine ⟨L, D, ws, acc, rfl, rfl, hL3, hD, by rw [sizeLine_eq]; omega, ?_⟩
          refine ⟨ds' ++ cs, ws ++ acc, _, _, _, rfl, (a2.trans a3).mut nL0, upd_same, ?_, ?_⟩
          · rw [List.map_append]
            exact ((hws.adv (a3.more (by simp))).adv (Adv.set (by simp))).app ((hacc.less (by simp)).adv (Adv.set (by simp)))
          · rw [szL_app]
            omega
      | tuple cs =>
        refine ⟨_, rfl, _, _, _, _, _, rfl, .ty _, hu2.ty A.W, k_tuple _, _, rfl, ?_⟩
        refine iteY (by simp [kitD, tyN]) (iteY rfl ?_)
        obtain ⟨b1, r1, rfl, hb1, hr1⟩ := hu1.tupE
        obtain ⟨b2, r2, rfl, hb2, hr2⟩ := hu2.tupE
        have hl1 := hr1.len
        have hl2 := hr2.len
        have szc : sz (.tuple cs) = 1 + szL cs := by rw [sz]
        have hcl := szle cs
        refine ⟨_, rfl, _, _, _, _, _, rfl, .ty _, hu2.ty A.W, k_tuple _, _, rfl, _, _, _, _, _, rfl, .ty _, hu1.ty A.W, k_tuple _, rfl, _, rfl, iteN (by simp) ?_⟩
        refine ⟨_, rfl, _, _, _, _, _, rfl, .ty _, hu2.ty A.W, k_list _, _, rfl, _, _, _, _, _, rfl, .ty _, hu1.ty A.W, k_list _, rfl, _, rfl, iteN (by simp) ?_⟩
        refine ⟨_, rfl, .inl ⟨b1, r1, rfl, .inr (hb1.sq A.W), _, rfl, .inl ⟨b2, r2, rfl, .inr (hb2.sq A.W), rfl, _, rfl, iteN (by simp [hl1, hl2]) ?_⟩⟩⟩
        refine ⟨_, rfl, .inl ⟨rfl, _, SqL.of hL2⟩, _, rfl, .inl ⟨b2, r2, rfl, .inr (hb2.sq A.W), (r2.length : Int), rfl, by omega, by omega, fun D nD => ?_⟩⟩
        refine lc_dataR (M := [L]) (n := (r2.length : Int).toNat) (cs.map prD) (by simp [hl2]) nD (by simp [hl2]; omega) ?_ ?_
        · intro j dj H3 acc R hj a3 hD k
          have hjl : j < cs.length := by
            have := (List.getElem?_eq_some_iff.mp hj).1
            simpa using this
          have e0 : (0 : Int) + (j : Nat) = (j : Int) := by omega
          rw [e0]
          obtain ⟨w1, hw1, iw1⟩ := hr1.get (List.getElem?_eq_getElem hjl)
          obtain ⟨w2, hw2, iw2⟩ := hr2.get (List.getElem?_eq_getElem hjl)
          have ed : prD cs[j] = dj := by simpa [hjl] using hj
          refine ⟨rfl, _, rfl, _, rfl, .inr ⟨b1, r1, (j : Int), w1, rfl, rfl, (hb1.adv (Adv.nil a3)).sq A.W, atI_nat hw1, _, rfl, _, rfl, .inr ⟨b2, r2, (j : Int), w2, rfl, rfl, (hb2.adv (Adv.nil a3)).sq A.W, atI_nat hw2, by show 2 ≤ sizeLine; decide, fun T nT => ?_⟩⟩⟩
          have nDT : T ≠ D := (ne_of_none hD nT).symm
          have nLT : T ≠ L := (ne_of_none (a3.same _ _ hL2) nT).symm
          refine k _ _ (by rw [upd_ne nDT.symm]; exact hD) (Adv.new nT) ?_
          rw [← ed]
          have aa : Adv [D, L] H2 (upd H3 T (.tup [w1, w2])) := (a3.more (by simp)).trans (Adv.new nT)
          have g1 : Is [D, L] H2 cs[j] w1 := iw1.fresh nD
          have g2 : Is [D, L] H2 cs[j] w2 := iw2.fresh nD
          exact Is.tup upd_same (by simp [nDT, nLT]) (.cons (g1.adv aa) (IsDs.one (g2.adv aa)))
        · intro H3 acc a3 hD hacc
          have hal := hacc.len
          rw [List.length_map] at hal
          have hL3 := a3.same _ _ hL2
          have nDL : D ≠ L := (ne_of_none hL2 nD).symm
          refine ⟨L, D, ws, acc, rfl, rfl, hL3, hD, by rw [sizeLine_eq]; omega, ?_⟩
          refine ⟨ds' ++ cs, ws ++ acc, _, _, _, rfl, (a2.trans a3).mut nL0, upd_same, ?_, ?_⟩
          · rw [List.map_append]
            exact ((hws.adv (a3.more (by simp))).adv (Adv.set (by simp))).app ((hacc.less (by simp)).adv (Adv.set (by simp)))
          · rw [szL_app]
            omega
      | dict kvs =>
        refine ⟨_, rfl, _, _, _, _, _, rfl, .ty _, hu2.ty A.W, k_tuple _, _, rfl, iteN (by simp [kitD, tyN]) ?_⟩
        refine ⟨_, rfl, _, _, _, _, _, rfl, .ty _, hu2.ty A.W, k_list _, _, rfl, iteN (by simp [kitD, tyN]) ?_⟩
        refine ⟨_, rfl, _, _, _, _, _, rfl, .ty _, hu2.ty A.W, k_dict _, _, rfl, iteY (by simp [kitD, tyN]) ?_⟩
        obtain ⟨rfl, b1, rfl, nb1, hb1⟩ := hu1.dicE
        obtain ⟨_, b2, rfl, nb2, hb2⟩ := hu2.dicE
        refine ⟨_, rfl, _, _, _, _, _, rfl, .ty _, hu1.ty A.W, k_dict _, _, rfl, iteN (by simp [kitD, tyN]) ?_⟩
        refine ⟨_, rfl, .inr ⟨b1, [], rfl, hb1, _, rfl, .inr ⟨b2, [], rfl, hb2, rfl, _, rfl, iteN (by simp) ?_⟩⟩⟩
        refine ⟨b2, .dK [], hb2, trivial, fun od => ?_⟩
        refine ⟨_, rfl, b2, od, rfl, .inl ⟨[], upd_same, fun D nD => ?_⟩⟩
        have nDb : b2 ≠ D := fun z => by rw [← z, upd_same] at nD; cases nD
        have nD2 : H2 D = none := by rw [upd_ne nDb.symm] at nD; exact nD
        refine lc_keys0 (d := b2) (o := od) upd_same nD ?_
        refine ⟨by rw [upd_ne nDb]; exact upd_same, ?_⟩
        have a3 : Adv [] H2 (upd (upd (upd H2 b2 (.frz od (.dK []))) D (.lst [])) b2 (.dK [])) := fun b o _ e => by
          by_cases eb : b = b2
          · rw [eb, upd_same, ← hb2, ← eb, e]
          · rw [upd_ne eb, upd_ne (ne_of_none e nD2), upd_ne eb, e]
        have hD3 : (upd (upd (upd H2 b2 (.frz od (.dK []))) D (.lst [])) b2 (.dK [])) D = some (.lst []) := by rw [upd_ne nDb.symm, upd_same]
        refine ⟨D, [], rfl, .inl (SqL.of hD3), _, _, rfl, rfl, _, rfl, iteN (by decide) ?_⟩
        generalize (upd (upd (upd H2 b2 (.frz od (.dK []))) D (.lst [])) b2 (.dK [])) = H3 at *
        have hb3 := a3.same _ _ hb2
        have hL3 := a3.same _ _ hL2
        refine ⟨_, rfl, .inl ⟨rfl, _, SqL.of hL3⟩, b2, .dK [], hb3, trivial, fun od => ?_⟩
        refine ⟨_, rfl, b2, od, rfl, .inl ⟨[], upd_same, fun D nD => ?_⟩⟩
        have nDb : b2 ≠ D := fun z => by rw [← z, upd_same] at nD; cases nD
        have nD3 : H3 D = none := by rw [upd_ne nDb.symm] at nD; exact nD
        refine lc_keys0 (d := b2) (o := od) upd_same nD ?_
        refine ⟨by rw [upd_ne nDb]; exact upd_same, ?_⟩
        have a4 : Adv [] H3 (upd (upd (upd H3 b2 (.frz od (.dK []))) D (.lst [])) b2 (.dK [])) := fun b o _ e => by
          by_cases eb : b = b2
          · rw [eb, upd_same, ← hb3, ← eb, e]
          · rw [upd_ne eb, upd_ne (ne_of_none e nD3), upd_ne eb, e]
        have hD4 : (upd (upd (upd H3 b2 (.frz od (.dK []))) D (.lst [])) b2 (.dK [])) D = some (.lst []) := by rw [upd_ne nDb.symm, upd_same]
        generalize (upd (upd (upd H3 b2 (.frz od (.dK []))) D (.lst [])) b2 (.dK [])) = H4 at *
        have hL4 := a4.same _ _ hL3
        refine ⟨L, D, ws, [], rfl, rfl, hL4, hD4, by rw [sizeLine_eq, List.length_nil]; omega, ?_⟩
        refine ⟨ds', ws, _, _, _, rfl, ((a2.trans a3).trans a4).mut nL0, by rw [upd_same, List.append_nil], ?_, by have := sz_pos (.dict []); omega⟩
        exact ((hws.adv (a3.more (by simp))).adv (a4.more (by simp))).adv (Adv.set (by simp))
      | bool b =>
        refine ⟨_, rfl, _, _, _, _, _, rfl, .ty _, hu2.ty A.W, k_tuple _, _, rfl, iteN (by simp [kitD, tyN]) ?_⟩
        refine ⟨_, rfl, _, _, _, _, _, rfl, .ty _, hu2.ty A.W, k_list _, _, rfl, iteN (by simp [kitD, tyN]) ?_⟩
        refine ⟨_, rfl, _, _, _, _, _, rfl, .ty _, hu2.ty A.W, k_dict _, _, rfl, iteN (by simp [kitD, tyN]) ?_⟩
        refine ⟨_, rfl, _, _, _, _, _, rfl, .ty _, hu2.ty A.W, k_bool _, _, rfl, iteY (by simp [kitD, tyN]) (iteY rfl ?_)⟩
        refine ⟨_, rfl, _, _, _, _, _, rfl, .ty _, hu1.ty A.W, k_bool _, _, rfl, _, _, _, _, _, rfl, .ty _, hu2.ty A.W, k_bool _, rfl, _, rfl, iteN (by simp) ?_⟩
        refine ⟨_, rfl, _, _, _, _, _, rfl, .ty _, hu1.ty A.W, k_str _, _, rfl, _, _, _, _, _, rfl, .ty _, hu2.ty A.W, k_str _, rfl, _, rfl, iteN (by simp) ?_⟩
        cases hu1.blE
        cases hu2.blE
        exact ⟨_, rfl, _, rfl, rfl, _, rfl, iteN (by simp) (fin _ _ _ _ (Adv.refl _ _))⟩
      | str x =>
        refine ⟨_, rfl, _, _, _, _, _, rfl, .ty _, hu2.ty A.W, k_tuple _, _, rfl, iteN (by simp [kitD, tyN]) ?_⟩
        refine ⟨_, rfl, _, _, _, _, _, rfl, .ty _, hu2.ty A.W, k_list _, _, rfl, iteN (by simp [kitD, tyN]) ?_⟩
        refine ⟨_, rfl, _, _, _, _, _, rfl, .ty _, hu2.ty A.W, k_dict _, _, rfl, iteN (by simp [kitD, tyN]) ?_⟩
        refine ⟨_, rfl, _, _, _, _, _, rfl, .ty _, hu2.ty A.W, k_bool _, _, rfl, iteN (by simp [kitD, tyN]) ?_⟩
        refine ⟨_, rfl, _, _, _, _, _, rfl, .ty _, hu2.ty A.W, k_str _, _, rfl, iteY (by simp [kitD, tyN]) ?_⟩
        refine ⟨_, rfl, _, _, _, _, _, rfl, .ty _, hu1.ty A.W, k_bool _, _, rfl, _, _, _, _, _, rfl, .ty _, hu2.ty A.W, k_bool _, rfl, _, rfl, iteN (by simp) ?_⟩
        refine ⟨_, rfl, _, _, _, _, _, rfl, .ty _, hu1.ty A.W, k_str _, _, rfl, _, _, _, _, _, rfl, .ty _, hu2.ty A.W, k_str _, rfl, _, rfl, iteN (by simp) ?_⟩
        cases hu1.strE
        cases hu2.strE
        exact ⟨_, rfl, _, rfl, rfl, _, rfl, iteN (by simp) (fin _ _ _ _ (Adv.refl _ _))⟩
      | int n =>
        refine ⟨_, rfl, _, _, _, _, _, rfl, .ty _, hu2.ty A.W, k_tuple _, _, rfl, iteN (by simp [kitD, tyN]) ?_⟩
        refine ⟨_, rfl, _, _, _, _, _, rfl, .ty _, hu2.ty A.W, k_list _, _, rfl, iteN (by simp [kitD, tyN]) ?_⟩
        refine ⟨_, rfl, _, _, _, _, _, rfl, .ty _, hu2.ty A.W, k_dict _, _, rfl, iteN (by simp [kitD, tyN]) ?_⟩
        refine ⟨_, rfl, _, _, _, _, _, rfl, .ty _, hu2.ty A.W, k_bool _, _, rfl, iteN (by simp [kitD, tyN]) ?_⟩
        refine ⟨_, rfl, _, _, _, _, _, rfl, .ty _, hu2.ty A.W, k_str _, _, rfl, iteN (by simp [kitD, tyN]) ?_⟩
        refine ⟨_, rfl, _, _, _, _, _, rfl, .ty _, hu2.ty A.W, k_int _, _, rfl, iteY (by simp [kitD, tyN]) ?_⟩
        refine ⟨_, rfl, _, _, _, _, _, rfl, .ty _, hu1.ty A.W, k_int _, _, rfl, iteN (by simp [kitD, tyN]) ?_⟩
        refine ⟨_, rfl, _, _, _, _, _, rfl, .ty _, hu1.ty A.W, k_bool _, _, rfl, iteN (by simp [kitD, tyN]) ?_⟩
        cases hu1.intE
        cases hu2.intE
        exact ⟨_, rfl, _, rfl, rfl, _, rfl, iteN (by simp) (fin _ _ _ _ (Adv.refl _ _))⟩
      | none =>
        refine ⟨_, rfl, _, _, _, _, _, rfl, .ty _, hu2.ty A.W, k_tuple _, _, rfl, iteN (by simp [kitD, tyN]) ?_⟩
        refine ⟨_, rfl, _, _, _, _, _, rfl, .ty _, hu2.ty A.W, k_list _, _, rfl, iteN (by simp [kitD, tyN]) ?_⟩
        refine ⟨_, rfl, _, _, _, _, _, rfl, .ty _, hu2.ty A.W, k_dict _, _, rfl, iteN (by simp [kitD, tyN]) ?_⟩
        refine ⟨_, rfl, _, _, _, _, _, rfl, .ty _, hu2.ty A.W, k_bool _, _, rfl, iteN (by simp [kitD, tyN]) ?_⟩
        refine ⟨_, rfl, _, _, _, _, _, rfl, .ty _, hu2.ty A.W, k_str _, _, rfl, iteN (by simp [kitD, tyN]) ?_⟩
        refine ⟨_, rfl, _, _, _, _, _, rfl, .ty _, hu2.ty A.W, k_int _, _, rfl, iteN (by simp [kitD, tyN]) ?_⟩
        cases hu1.nonE
        cases hu2.nonE
        exact ⟨_, rfl, rfl, _, rfl, iteN (by simp) (fin _ _ _ _ (Adv.refl _ _))⟩
    · rintro σ' H' ⟨ds, vs, x3, x4, x5, rfl, a', hL, hds, hsz⟩
      have : (2000000 : Int).toNat = 2000000 := rfl
      omega
end
end K89

set_option Elab.async false
set_option linter.all false
set_option maxRecDepth 100000
set_option maxHeartbeats 400000
namespace K89
open PySem PySem.Spec PyProof.Rows L2 LL
def allNames : List Str := ["BadLogic", "BadSheet", "BadClaim", "BadModel", "BadPaper", "BadTerm", "BadEdit", "BadValue", "BadText", "BadSize", "TooMany", "NotBoxed", "NotProved", "NotThere", "NothingToUndo", "NothingToRedo"]
/-- the classes of errors -/
structure Exs (K : PySem.W.Frag) (mg : Str → Option Value) where
  CE : Addr
  cA : Str → Addr
  mC : mg "CourtError" = some (.ref CE)
  mA : ∀ n ∈ allNames, mg n = some (.ref (cA n))
/-- what kind of error the class of this name is -/
structure NF {K : PySem.W.Frag} {mg : Str → Option Value} (Z : Exs K mg) (nm : Str) : Prop where
  eD : ExcC K (Z.cA nm)
  k : ∀ n ∈ allNames, PySem.W.kitOne K (.ref (Z.cA nm)) (.ref (Z.cA n)) = some (decide (n = nm))
  kC : PySem.W.kitOne K (.ref (Z.cA nm)) (.ref Z.CE) = some true
  kV : PySem.W.kitOne K (.ref (Z.cA nm)) (.type "ValueError") = some true
  hC : PySem.W.exmOne K (.ref (Z.cA nm)) (.ref Z.CE) = some true
def allBs (nm : Str) : List V := allNames.map fun n => V.bl (decide (n = nm))

abbrev s_BadValue : Stmt := inClass (top 9) 0
theorem sc_BadValue : FnScope ["self", "name"] ["self", "name"] (defScope s_BadValue) := ⟨rfl, rfl, rfl, by decide +kernel, rfl, by decide +kernel, by decide +kernel⟩
structure Er_BadValue {K : PySem.W.Frag} {mg : Str → Option Value} (Z : Exs K mg) where
  O : OexC K (Z.cA "BadValue")
  f : Addr
  fd : FuncData
  I : PySem.W.findIn K (.ref (Z.cA "BadValue")) "__init__" = some (some (.ref f))
  T : PySem.W.typeIn K (.ref f) = some (.type "function")
  F : Fun K "__init__" "BadValue.__init__" s_BadValue f fd
  b : Binds K fd ["self", "name"] []
  X : XfC K (Z.cA "BadValue")
  A_ : PySem.W.findIn K (.ref (Z.cA "BadValue")) "name" = some none
  N : NF Z "BadValue"
section
variable [KW]
variable {P : Program} {w : World} {K : PySem.W.Frag} {mg : Str → Option Value} {base : Heap}
/-! ### __init__ -/
def spInit (S : Addr) (fl : Str) : Sp := fun vs H Q _ => ∃ (a : Addr) (y : V), vs = [.ref a, y] ∧ H a = some (exo a S none) ∧ ∀ dx, H dx = none → dx ≠ a → Q .non (upd (upd H dx (exd dx [(fl, y)])) a (exo a S (some dx)))
theorem ok_BadValue {Z : Exs K mg} (Z1 : Er_BadValue Z) : FnOk P w K mg base CX0 1 Z1.f Z1.fd ["self", "name"] (spInit (Z.cA "BadValue") "name") := by
  refine Z1.F.ok sc_BadValue (fun vs H Q E h => ?_) (fun cdv Ar outer s H vs Q E hr h => ?_)
  · obtain ⟨a, y, rfl, _⟩ := h
    rfl
  · obtain ⟨a, y, rfl, ha, q⟩ := h
    refine ⟨_, pss_one (ps_ost (pv 0) (pv 1)), ?_⟩
    exact ⟨_, rfl, _, rfl, a, Z.cA "BadValue", rfl, Z1.O, Z1.A_, .inl ⟨ha, fun dx n1 n2 => q dx n1 n2⟩⟩
/-! ### _law_named -/
def spNamed (D : Addr) (nm : Str) : Addr × Obj → Sp := fun p vs H Q _ => ∃ (d : Option Addr), vs = [.ref p.1] ∧ Zc (.ref D) d p.2 ∧ (∃ fs, p.2.data = .fields fs) ∧ (∀ dd, d = some dd → ∃ fs, H dd = some (.xd fs)) ∧
  ∀ H', Adv [] H H' → Q (.str nm) H'
theorem ok_law_named (A : All K mg w) (Z : Exs K mg) {nm : Str} (N : NF Z nm) (j : Nat) (hj : allNames[j]? = some nm) (hc : ((allBs nm).countP fun z => eqV z (V.bl true)) = 1) (hjt : (allBs nm)[j]? = some (V.bl true)) (hjf : ∀ m, m < j → ∀ z, (allBs nm)[m]? = some z → eqV z (V.bl true) = false) :
    FnP P w K mg base 1 A.law_named.f A.law_named.fd ["error"] (spNamed (Z.cA nm) nm) := by
  refine okP A.law_named.F sc_law_named (fun p vs H Q E h => ?_) (fun cdv Ar outer s H vs Q E p hr h => ?_)
  · obtain ⟨d, rfl, _⟩ := h
    rfl
  · obtain ⟨d, rfl, hz, hf, hd, q⟩ := h
    have hdA : ∀ {H'}, Adv [] H H' → ∀ dd, d = some dd → ∃ fs, H' dd = some (.xd fs) := fun a dd e => by
      obtain ⟨fs, h⟩ := hd dd e
      exact ⟨fs, a _ _ (by simp) h⟩
    refine ⟨_, (pss_cons (ps_set (i := 1) sc_law_named.nd rfl (Or.inl rfl) (pe_m1 PySem.F.slot_str_split PySem.F.type_str_split mt_split pe_str pe_str))
  (pss_cons (ps_set (i := 2) sc_law_named.nd rfl (Or.inl rfl) (pe_lst (pa_cons (pe_callB (call_isP N.eD hz hf (List.mem_singleton.mpr rfl)) (by rfl) A.T.isinstance (by decide +kernel) (pa_cons (pv 0) (pa_cons (pe_glob (v := .ref (Z.cA "BadLogic")) rfl (Z.mA "BadLogic" (by decide)) rfl) pa_nil))) (pa_cons (pe_callB (call_isP N.eD hz hf (List.mem_singleton.mpr rfl)) (by rfl) A.T.isinstance (by decide +kernel) (pa_cons (pv 0) (pa_cons (pe_glob (v := .ref (Z.cA "BadSheet")) rfl (Z.mA "BadSheet" (by decide)) rfl) pa_nil))) (pa_cons (pe_callB (call_isP N.eD hz hf (List.mem_singleton.mpr rfl)) (by rfl) A.T.isinstance (by decide +kernel) (pa_cons (pv 0) (pa_cons (pe_glob (v := .ref (Z.cA "BadClaim")) rfl (Z.mA "BadClaim" (by decide)) rfl) pa_nil))) (pa_cons (pe_callB (call_isP N.eD hz hf (List.mem_singleton.mpr rfl)) (by rfl) A.T.isinstance (by decide +kernel) (pa_cons (pv 0) (pa_cons (pe_glob (v := .ref (Z.cA "BadModel")) rfl (Z.mA "BadModel" (by decide)) rfl) pa_nil))) pa_nil))))))
  (pss_cons (ps_set (i := 2) sc_law_named.nd rfl (Or.inl rfl) (pe_op op_cat (pv 2) (pe_lst (pa_cons (pe_callB (call_isP N.eD hz hf (List.mem_singleton.mpr rfl)) (by rfl) A.T.isinstance (by decide +kernel) (pa_cons (pv 0) (pa_cons (pe_glob (v := .ref (Z.cA "BadPaper")) rfl (Z.mA "BadPaper" (by decide)) rfl) pa_nil))) (pa_cons (pe_callB (call_isP N.eD hz hf (List.mem_singleton.mpr rfl)) (by rfl) A.T.isinstance (by decide +kernel) (pa_cons (pv 0) (pa_cons (pe_glob (v := .ref (Z.cA "BadTerm")) rfl (Z.mA "BadTerm" (by decide)) rfl) pa_nil))) (pa_cons (pe_callB (call_isP N.eD hz hf (List.mem_singleton.mpr rfl)) (by rfl) A.T.isinstance (by decide +kernel) (pa_cons (pv 0) (pa_cons (pe_glob (v := .ref (Z.cA "BadEdit")) rfl (Z.mA "BadEdit" (by decide)) rfl) pa_nil))) (pa_cons (pe_callB (call_isP N.eD hz hf (List.mem_singleton.mpr rfl)) (by rfl) A.T.isinstance (by decide +kernel) (pa_cons (pv 0) (pa_cons (pe_glob (v := .ref (Z.cA "BadValue")) rfl (Z.mA "BadValue" (by decide)) rfl) pa_nil))) pa_nil)))))))
  (pss_cons (ps_set (i := 2) sc_law_named.nd rfl (Or.inl rfl) (pe_op op_cat (pv 2) (pe_lst (pa_cons (pe_callB (call_isP N.eD hz hf (List.mem_singleton.mpr rfl)) (by rfl) A.T.isinstance (by decide +kernel) (pa_cons (pv 0) (pa_cons (pe_glob (v := .ref (Z.cA "BadText")) rfl (Z.mA "BadText" (by decide)) rfl) pa_nil))) (pa_cons (pe_callB (call_isP N.eD hz hf (List.mem_singleton.mpr rfl)) (by rfl) A.T.isinstance (by decide +kernel) (pa_cons (pv 0) (pa_cons (pe_glob (v := .ref (Z.cA "BadSize")) rfl (Z.mA "BadSize" (by decide)) rfl) pa_nil))) (pa_cons (pe_callB (call_isP N.eD hz hf (List.mem_singleton.mpr rfl)) (by rfl) A.T.isinstance (by decide +kernel) (pa_cons (pv 0) (pa_cons (pe_glob (v := .ref (Z.cA "TooMany")) rfl (Z.mA "TooMany" (by decide)) rfl) pa_nil))) (pa_cons (pe_callB (call_isP N.eD hz hf (List.mem_singleton.mpr rfl)) (by rfl) A.T.isinstance (by decide +kernel) (pa_cons (pv 0) (pa_cons (pe_glob (v := .ref (Z.cA "NotBoxed")) rfl (Z.mA "NotBoxed" (by decide)) rfl) pa_nil))) pa_nil)))))))
  (pss_cons (ps_set (i := 2) sc_law_named.nd rfl (Or.inl rfl) (pe_op op_cat (pv 2) (pe_lst (pa_cons (pe_callB (call_isP N.eD hz hf (List.mem_singleton.mpr rfl)) (by rfl) A.T.isinstance (by decide +kernel) (pa_cons (pv 0) (pa_cons (pe_glob (v := .ref (Z.cA "NotProved")) rfl (Z.mA "NotProved" (by decide)) rfl) pa_nil))) (pa_cons (pe_callB (call_isP N.eD hz hf (List.mem_singleton.mpr rfl)) (by rfl) A.T.isinstance (by decide +kernel) (pa_cons (pv 0) (pa_cons (pe_glob (v := .ref (Z.cA "NotThere")) rfl (Z.mA "NotThere" (by decide)) rfl) pa_nil))) (pa_cons (pe_callB (call_isP N.eD hz hf (List.mem_singleton.mpr rfl)) (by rfl) A.T.isinstance (by decide +kernel) (pa_cons (pv 0) (pa_cons (pe_glob (v := .ref (Z.cA "NothingToUndo")) rfl (Z.mA "NothingToUndo" (by decide)) rfl) pa_nil))) (pa_cons (pe_callB (call_isP N.eD hz hf (List.mem_singleton.mpr rfl)) (by rfl) A.T.isinstance (by decide +kernel) (pa_cons (pv 0) (pa_cons (pe_glob (v := .ref (Z.cA "NothingToRedo")) rfl (Z.mA "NothingToRedo" (by decide)) rfl) pa_nil))) pa_nil)))))))
  (pss_cons (ps_if (PW.pt (pw_or (pt_cmpR op_ne (pe_bm PySem.F.plainAttrs_list PySem.F.slot_list_count PySem.F.type_list_count mt_countF (pv 2) (pa_cons pe_bl pa_nil)) pe_int (nomark _)) (pw_or (pt_not (pt_val (pe_callB (call_isP N.eD hz hf (List.mem_singleton.mpr rfl)) (by rfl) A.T.isinstance (by decide +kernel) (pa_cons (pv 0) (pa_cons (pe_glob (v := .ref Z.CE) rfl Z.mC rfl) pa_nil))))) (pw_or1 (pt_not (pt_val (pe_callB (call_isP N.eD hz hf (List.mem_singleton.mpr rfl)) (by rfl) A.T.isinstance (by decide +kernel) (pa_cons (pv 0) (pa_cons (pe_bltn (v := .ty "ValueError") (by rfl) A.T.ValueError (by decide +kernel) rfl) pa_nil)))))))))
    (pss_one (ps_ret pe_str))
    pss_nil)
  (pss_one (ps_ret (pe_ix ix_list (pv 1) (pe_bm PySem.F.plainAttrs_list PySem.F.slot_list_index PySem.F.type_list_index mt_index (pv 2) (pa_cons pe_bl pa_nil)) (fun _ _ => rfl)))))))))), ?_⟩
    refine ⟨⟨_, rfl⟩, _, _, rfl, rfl, rfl, by show _ ≤ sizeLine; decide +kernel, ?_⟩
    intro p0 np0
    have a0 : Adv [] H (upd H p0 (.lst (allNames.map V.str))) := Adv.new np0
    have es : Txt.split "BadLogic BadSheet BadClaim BadModel BadPaper BadTerm BadEdit BadValue BadText BadSize TooMany NotBoxed NotProved NotThere NothingToUndo NothingToRedo" " " = allNames := by decide +kernel
    rw [es]
    refine ⟨_, rfl, _, _, _, rfl, fun u h => h, hdA a0, (N.k "BadLogic" (by decide)), _, rfl, _, _, _, rfl, fun u h => h, hdA a0, (N.k "BadSheet" (by decide)), _, rfl, _, _, _, rfl, fun u h => h, hdA a0, (N.k "BadClaim" (by decide)), _, rfl, _, _, _, rfl, fun u h => h, hdA a0, (N.k "BadModel" (by decide)), by show 4 ≤ sizeLine; decide, fun p1 np1 => ?_⟩
    have a1 : Adv [] H (upd (upd H p0 (.lst (allNames.map V.str))) p1 (.lst [.bl (decide (("BadLogic" : Str) = nm)), .bl (decide (("BadSheet" : Str) = nm)), .bl (decide (("BadClaim" : Str) = nm)), .bl (decide (("BadModel" : Str) = nm))])) := a0.newT np1
    have b1 : Adv [] (upd H p0 (.lst (allNames.map V.str))) (upd (upd H p0 (.lst (allNames.map V.str))) p1 (.lst [.bl (decide (("BadLogic" : Str) = nm)), .bl (decide (("BadSheet" : Str) = nm)), .bl (decide (("BadClaim" : Str) = nm)), .bl (decide (("BadModel" : Str) = nm))])) := Adv.new np1
    refine ⟨_, rfl, _, rfl, _, _, _, rfl, fun u h => h, hdA a1, (N.k "BadPaper" (by decide)), _, rfl, _, _, _, rfl, fun u h => h, hdA a1, (N.k "BadTerm" (by decide)), _, rfl, _, _, _, rfl, fun u h => h, hdA a1, (N.k "BadEdit" (by decide)), _, rfl, _, _, _, rfl, fun u h => h, hdA a1, (N.k "BadValue" (by decide)), by show 4 ≤ sizeLine; decide, ?_⟩
    intro p2 np2
    have a2 := a1.newT (o := .lst [.bl (decide (("BadPaper" : Str) = nm)), .bl (decide (("BadTerm" : Str) = nm)), .bl (decide (("BadEdit" : Str) = nm)), .bl (decide (("BadValue" : Str) = nm))]) np2
    have b2 := b1.newT (o := .lst [.bl (decide (("BadPaper" : Str) = nm)), .bl (decide (("BadTerm" : Str) = nm)), .bl (decide (("BadEdit" : Str) = nm)), .bl (decide (("BadValue" : Str) = nm))]) np2
    refine ⟨p1, p2, [.bl (decide (("BadLogic" : Str) = nm)), .bl (decide (("BadSheet" : Str) = nm)), .bl (decide (("BadClaim" : Str) = nm)), .bl (decide (("BadModel" : Str) = nm))], [.bl (decide (("BadPaper" : Str) = nm)), .bl (decide (("BadTerm" : Str) = nm)), .bl (decide (("BadEdit" : Str) = nm)), .bl (decide (("BadValue" : Str) = nm))], rfl, rfl, ?_, upd_same, by show 8 ≤ sizeLine; decide, ?_⟩
    · rw [upd_ne (ne_of_none (o := .lst [.bl (decide (("BadLogic" : Str) = nm)), .bl (decide (("BadSheet" : Str) = nm)), .bl (decide (("BadClaim" : Str) = nm)), .bl (decide (("BadModel" : Str) = nm))]) upd_same np2)]; exact upd_same
    intro p3 np3
    have a3 := a2.newT (o := .lst [.bl (decide (("BadLogic" : Str) = nm)), .bl (decide (("BadSheet" : Str) = nm)), .bl (decide (("BadClaim" : Str) = nm)), .bl (decide (("BadModel" : Str) = nm)), .bl (decide (("BadPaper" : Str) = nm)), .bl (decide (("BadTerm" : Str) = nm)), .bl (decide (("BadEdit" : Str) = nm)), .bl (decide (("BadValue" : Str) = nm))]) np3
    have b3 := b2.newT (o := .lst [.bl (decide (("BadLogic" : Str) = nm)), .bl (decide (("BadSheet" : Str) = nm)), .bl (decide (("BadClaim" : Str) = nm)), .bl (decide (("BadModel" : Str) = nm)), .bl (decide (("BadPaper" : Str) = nm)), .bl (decide (("BadTerm" : Str) = nm)), .bl (decide (("BadEdit" : Str) = nm)), .bl (decide (("BadValue" : Str) = nm))]) np3
    refine ⟨_, rfl, _, rfl, _, _, _, rfl, fun u h => h, hdA a3, (N.k "BadText" (by decide)), _, rfl, _, _, _, rfl, fun u h => h, hdA a3, (N.k "BadSize" (by decide)), _, rfl, _, _, _, rfl, fun u h => h, hdA a3, (N.k "TooMany" (by decide)), _, rfl, _, _, _, rfl, fun u h => h, hdA a3, (N.k "NotBoxed" (by decide)), by show 4 ≤ sizeLine; decide, ?_⟩
    intro p4 np4
    have a4 := a3.newT (o := .lst [.bl (decide (("BadText" : Str) = nm)), .bl (decide (("BadSize" : Str) = nm)), .bl (decide (("TooMany" : Str) = nm)), .bl (decide (("NotBoxed" : Str) = nm))]) np4
    have b4 := b3.newT (o := .lst [.bl (decide (("BadText" : Str) = nm)), .bl (decide (("BadSize" : Str) = nm)), .bl (decide (("TooMany" : Str) = nm)), .bl (decide (("NotBoxed" : Str) = nm))]) np4
    refine ⟨p3, p4, [.bl (decide (("BadLogic" : Str) = nm)), .bl (decide (("BadSheet" : Str) = nm)), .bl (decide (("BadClaim" : Str) = nm)), .bl (decide (("BadModel" : Str) = nm)), .bl (decide (("BadPaper" : Str) = nm)), .bl (decide (("BadTerm" : Str) = nm)), .bl (decide (("BadEdit" : Str) = nm)), .bl (decide (("BadValue" : Str) = nm))], [.bl (decide (("BadText" : Str) = nm)), .bl (decide (("BadSize" : Str) = nm)), .bl (decide (("TooMany" : Str) = nm)), .bl (decide (("NotBoxed" : Str) = nm))], rfl, rfl, ?_, upd_same, by show 12 ≤ sizeLine; decide, ?_⟩
    · rw [upd_ne (ne_of_none (o := .lst [.bl (decide (("BadLogic" : Str) = nm)), .bl (decide (("BadSheet" : Str) = nm)), .bl (decide (("BadClaim" : Str) = nm)), .bl (decide (("BadModel" : Str) = nm)), .bl (decide (("BadPaper" : Str) = nm)), .bl (decide (("BadTerm" : Str) = nm)), .bl (decide (("BadEdit" : Str) = nm)), .bl (decide (("BadValue" : Str) = nm))]) upd_same np4)]; exact upd_same
    intro p5 np5
    have a5 := a4.newT (o := .lst [.bl (decide (("BadLogic" : Str) = nm)), .bl (decide (("BadSheet" : Str) = nm)), .bl (decide (("BadClaim" : Str) = nm)), .bl (decide (("BadModel" : Str) = nm)), .bl (decide (("BadPaper" : Str) = nm)), .bl (decide (("BadTerm" : Str) = nm)), .bl (decide (("BadEdit" : Str) = nm)), .bl (decide (("BadValue" : Str) = nm)), .bl (decide (("BadText" : Str) = nm)), .bl (decide (("BadSize" : Str) = nm)), .bl (decide (("TooMany" : Str) = nm)), .bl (decide (("NotBoxed" : Str) = nm))]) np5
    have b5 := b4.newT (o := .lst [.bl (decide (("BadLogic" : Str) = nm)), .bl (decide (("BadSheet" : Str) = nm)), .bl (decide (("BadClaim" : Str) = nm)), .bl (decide (("BadModel" : Str) = nm)), .bl (decide (("BadPaper" : Str) = nm)), .bl (decide (("BadTerm" : Str) = nm)), .bl (decide (("BadEdit" : Str) = nm)), .bl (decide (("BadValue" : Str) = nm)), .bl (decide (("BadText" : Str) = nm)), .bl (decide (("BadSize" : Str) = nm)), .bl (decide (("TooMany" : Str) = nm)), .bl (decide (("NotBoxed" : Str) = nm))]) np5
    refine ⟨_, rfl, _, rfl, _, _, _, rfl, fun u h => h, hdA a5, (N.k "NotProved" (by decide)), _, rfl, _, _, _, rfl, fun u h => h, hdA a5, (N.k "NotThere" (by decide)), _, rfl, _, _, _, rfl, fun u h => h, hdA a5, (N.k "NothingToUndo" (by decide)), _, rfl, _, _, _, rfl, fun u h => h, hdA a5, (N.k "NothingToRedo" (by decide)), by show 4 ≤ sizeLine; decide, ?_⟩
    intro p6 np6
    have a6 := a5.newT (o := .lst [.bl (decide (("NotProved" : Str) = nm)), .bl (decide (("NotThere" : Str) = nm)), .bl (decide (("NothingToUndo" : Str) = nm)), .bl (decide (("NothingToRedo" : Str) = nm))]) np6
    have b6 := b5.newT (o := .lst [.bl (decide (("NotProved" : Str) = nm)), .bl (decide (("NotThere" : Str) = nm)), .bl (decide (("NothingToUndo" : Str) = nm)), .bl (decide (("NothingToRedo" : Str) = nm))]) np6
    refine ⟨p5, p6, [.bl (decide (("BadLogic" : Str) = nm)), .bl (decide (("BadSheet" : Str) = nm)), .bl (decide (("BadClaim" : Str) = nm)), .bl (decide (("BadModel" : Str) = nm)), .bl (decide (("BadPaper" : Str) = nm)), .bl (decide (("BadTerm" : Str) = nm)), .bl (decide (("BadEdit" : Str) = nm)), .bl (decide (("BadValue" : Str) = nm)), .bl (decide (("BadText" : Str) = nm)), .bl (decide (("BadSize" : Str) = nm)), .bl (decide (("TooMany" : Str) = nm)), .bl (decide (("NotBoxed" : Str) = nm))], [.bl (decide (("NotProved" : Str) = nm)), .bl (decide (("NotThere" : Str) = nm)), .bl (decide (("NothingToUndo" : Str) = nm)), .bl (decide (("NothingToRedo" : Str) = nm))], rfl, rfl, ?_, upd_same, by show 16 ≤ sizeLine; decide, ?_⟩
    · rw [upd_ne (ne_of_none (o := .lst [.bl (decide (("BadLogic" : Str) = nm)), .bl (decide (("BadSheet" : Str) = nm)), .bl (decide (("BadClaim" : Str) = nm)), .bl (decide (("BadModel" : Str) = nm)), .bl (decide (("BadPaper" : Str) = nm)), .bl (decide (("BadTerm" : Str) = nm)), .bl (decide (("BadEdit" : Str) = nm)), .bl (decide (("BadValue" : Str) = nm)), .bl (decide (("BadText" : Str) = nm)), .bl (decide (("BadSize" : Str) = nm)), .bl (decide (("TooMany" : Str) = nm)), .bl (decide (("NotBoxed" : Str) = nm))]) upd_same np6)]; exact upd_same
    intro p7 np7
    have a7 := a6.newT (o := .lst (allBs nm)) np7
    have b7 := b6.newT (o := .lst (allBs nm)) np7
    have h0 := b7 p0 _ (by simp) upd_same
    have hfl : (allBs nm).all flatV = true := rfl
    refine ⟨_, rfl, .inl ⟨rfl, _, SqL.of upd_same⟩, p7, allBs nm, .bl true, rfl, rfl, SqL.of upd_same, rfl, hfl, rfl, _, rfl, iteN (by rw [hc]; rfl) ?_⟩
    refine ⟨_, rfl, _, _, _, rfl, fun u h => h, hdA a7, N.kC, _, rfl, iteN (by decide) ?_⟩
    refine ⟨_, rfl, _, _, _, rfl, fun u h => h, hdA a7, N.kV, _, rfl, iteN (by decide) ?_⟩
    refine ⟨_, rfl, _, rfl, .inl ⟨rfl, _, SqL.of upd_same⟩, p7, allBs nm, .bl true, j, .bl true, rfl, rfl, SqL.of upd_same, rfl, hfl, hjt, rfl, fun m z hm hz => hjf m hm z hz, p0, _, _, _, rfl, rfl, SqL.of h0, atI_nat (j := j) (by rw [List.getElem?_map, hj]; rfl), ?_⟩
    exact q _ a7
/-- it is called in an except suite -/
def tHeld (D : Addr) (nm : Str) (a : Addr) (cls : Value) (d : Option Addr) (i : Nat) : TE := fun σ H Q => tVar i σ H fun x H1 => x = .ref a ∧ cls = .ref D ∧ (∀ dd, d = some dd → ∃ fs, H1 dd = some (.xd fs)) ∧ ∀ H', Adv [] H1 H' → Q (.str nm) H'
structure Nam (K : PySem.W.Frag) (mg : Str → Option Value) (Z : Exs K mg) (nm : Str) : Prop where
  N : NF Z nm
  ex : ∃ j : Nat, allNames[j]? = some nm ∧ ((allBs nm).countP fun z => eqV z (V.bl true)) = 1 ∧ (allBs nm)[j]? = some (V.bl true) ∧ ∀ m : Nat, m < j → ∀ z, (allBs nm)[m]? = some z → eqV z (V.bl true) = false
theorem takes_no {X : Cx} : L2N.Takes X (fun _ _ _ _ => False) := fun u s' ⟨_, _, _, _, _, _, _, _, _, _, _, _, _, _, _, _, w⟩ => w.elim
/-- of several classes: the one that the held error is of -/
def tHeldA (Z : Exs K mg) (a : Addr) (cls : Value) (d : Option Addr) (i : Nat) : TE := fun σ H Q => tVar i σ H fun x H1 => x = .ref a ∧ ∃ nm, Nam K mg Z nm ∧ cls = .ref (Z.cA nm) ∧ (∀ dd, d = some dd → ∃ fs, H1 dd = some (.xd fs)) ∧ ∀ H', Adv [] H1 H' → Q (.str nm) H'
theorem pe_named {X : Cx} (A : All X.K X.mg X.w) (Z : Exs X.K X.mg) (hr : Room 1 X.A) (hg : Gl X "_law_named") {a : Addr} {oe : Obj} {cls : Value} {d : Option Addr} {pn : List (Addr × Obj)} (hz : Zc cls d oe) (hf : ∃ vs, oe.data = .fields vs)
    {y : Str} {i : Nat} {q pos ep : Pos} (he : PE (X.suite a ((a, oe) :: pn)) (.Name y ep) (tVar i)) :
    PE (X.suite a ((a, oe) :: pn)) (.Call (.Name "_law_named" q) [.Name y ep] [] pos) (tHeldA Z a cls d i) := by
  refine ⟨fun pins s σ H Q I h => ?_⟩
  obtain ⟨x, hx, ex, nm, N, ec, hd, q⟩ := h
  obtain ⟨j, h1, h2, h3, h4⟩ := N.ex
  refine (pe_callP (X := X.suite a ((a, oe) :: pn)) (p := (a, oe)) (E := E0) (ok_law_named (P := X.prog) (base := X.base) A Z N.N j h1 h2 h3 h4) ⟨hr.dp, hr.un⟩ List.mem_cons_self hg A.law_named.m A.law_named.F.kp A.law_named.b (pa_cons he pa_nil)).run pins s σ H Q I ?_
  exact ⟨x, hx, d, by rw [ex], by rw [← ec]; exact hz, hf, hd, q⟩
end
end K89

set_option Elab.async false
set_option linter.all false
set_option maxRecDepth 100000
set_option maxHeartbeats 400000
namespace K89
open PySem PySem.Spec PyProof.Rows L2 LL
open C8 (pss_cut)
local macro_rules | `(tactic| walk_at "ne") => `(tactic| first | assumption | (apply Ne.symm; assumption) | exact ne_of_none (by walk_at "hp") (by assumption) | exact (ne_of_none (by walk_at "hp") (by assumption)).symm)
local macro_rules | `(tactic| walk_at "nm") => `(tactic| first | assumption | exact notin0 | exact notin1 (by walk_at "ne") | exact notin2 (by walk_at "ne") (by walk_at "ne"))
local macro_rules | `(tactic| walk_at "hp") => `(tactic| first | assumption | exact upd_same | (refine Eq.trans (upd_ne ?ne) ?hh; (case hh => walk_at "hp"); (case ne => walk_at "ne")) | (refine Adv.get' (by assumption) ?hh ?nn; (case hh => walk_at "hp"); (case nn => walk_at "nm")))
local macro_rules | `(tactic| walk_at "tp") => `(tactic| first | assumption | exact Tp.adv (by walk_at "tp") (by assumption) | exact Tp.adv (by walk_at "tp") (Adv.nil (by assumption)))
local macro_rules | `(tactic| walk_at "sq") => `(tactic| first | assumption | exact Tp.sq (by assumption) (by walk_at "tp") | exact SqT.of (by walk_at "hp"))
local macro_rules | `(tactic| walk_at "at") => `(tactic| first | exact atI_nat (j := 0) rfl | exact atI_nat (j := 1) rfl | exact atI_nat (j := 2) rfl | exact atI_nat (j := 3) rfl | exact atI_nat (by assumption) | (rw [Int.zero_add]; exact atI_nat (by assumption)))
local macro_rules | `(tactic| walk_at "bb") => `(tactic| first | assumption | decide | exact rfl)
local macro_rules | `(tactic| walk_at "ci") => `(tactic| first | omega | (dsimp only; omega) | (unfold CDiv; omega) | (unfold CMul; omega))
local macro_rules | `(tactic| walk_at "rd1") => `(tactic| first
  | with_reducible refine rd_c ?_
  | ((with_reducible refine' rd_var ?rh ?_); (case rh => exact rfl))
  | with_reducible refine rd_op ?_
  | with_reducible refine rd_seq ?_
  | with_reducible refine rd_asg ?_
  | with_reducible refine rd_gname ?_
  | with_reducible refine rd_ifS ?_
  | with_reducible refine rd_test ?_
  | with_reducible refine rd_tB ?_
  | with_reducible refine rd_blP ?_
  | ((with_reducible refine' iteY ?rh ?_); (case rh => walk_at "bb"))
  | ((with_reducible refine' iteN ?rh ?_); (case rh => walk_at "bb"))
  | with_reducible refine rd_ret ?_
  | with_reducible refine rd_nx ?_
  | ((with_reducible refine' rd_eq ?rh ?_); (case rh => exact rfl))
  | ((with_reducible refine' rd_ne ?rh ?_); (case rh => exact rfl))
  | with_reducible refine rd_add ?_
  | with_reducible refine rd_sub ?_
  | with_reducible refine rd_i0 ?_
  | with_reducible refine rd_and ?_
  | with_reducible refine rd_or ?_
  | with_reducible refine rd_not ?_
  | with_reducible refine rd_andV ?_
  | with_reducible refine rd_orV ?_
  | with_reducible refine rd_notV ?_
  | with_reducible refine rd_ifE ?_
  | with_reducible refine rd_isN ?_
  | with_reducible refine rd_notN ?_
  | with_reducible refine rd_cons ?_
  | with_reducible refine rd_nil ?_
  | with_reducible refine rd_tup ?_
  | with_reducible refine rd_lst ?_
  | with_reducible refine rd_call ?_
  | with_reducible refine rd_cb ?_
  | with_reducible refine rd_meth ?_
  | with_reducible refine rd_callS ?_
  | with_reducible refine rd_make ?_
  | with_reducible refine rd_rfl ?_
  | with_reducible refine rd_fld ?_
  | with_reducible refine rd_drop ?_
  | with_reducible refine rd_gsub ?_
  | with_reducible refine rd_gcons ?_
  | with_reducible refine rd_gnil ?_
  | with_reducible refine rd_par ?_
  | with_reducible refine rd_two ?_
  | with_reducible refine rd_par3 ?_
  | with_reducible refine rd_three ?_
  | with_reducible refine rd_int1 ?_
  | ((with_reducible refine' rd_i ?rh ?_); (case rh => walk_at "ci"))
  | with_reducible refine rd_part ?_
  | with_reducible refine rd_nopart ?_
  | with_reducible refine rd_int ?_
  | with_reducible refine rd_sl ?_
  | with_reducible refine rd_bm ?_
  | with_reducible refine rd_bm0 ?_
  | with_reducible refine rd_dgetT ?_
  | with_reducible refine rd_din ?_
  | with_reducible refine rd_dnin ?_
  | with_reducible refine rd_un ?_
  | ((with_reducible refine' rd_ixL ?rh ?re ?_); (case rh => walk_at "hp"); (case re => walk_at "at"))
  | ((with_reducible refine' rd_ixT ?rh ?re ?_); (case rh => walk_at "sq"); (case re => walk_at "at"))
  | ((with_reducible refine' rd_lenT ?rh ?_); (case rh => walk_at "sq"))
  | ((with_reducible refine' rd_tyL ?rh ?_); (case rh => walk_at "hp"))
  | ((with_reducible refine' rd_len ?rh ?_); (case rh => walk_at "hp"))
  | with_reducible refine rd_u ?_
  | ((with_reducible refine' rd_slL ?rh ?_); (case rh => walk_at "hp"))
  | with_reducible refine rd_for ?_
  | with_reducible refine rd_rng1 ?_
  | with_reducible refine rd_rng2 ?_
  | with_reducible refine rd_ints1 ?_
  | with_reducible refine rd_ints2 ?_
  | with_reducible refine rd_retN ?_)
local macro_rules | `(tactic| walk_at "rd") => `(tactic| repeat walk_at "rd1")
section
variable [KW]
variable {P : Program} {w : World} {K : PySem.W.Frag} {mg : Str → Option Value} {base : Heap}
theorem not_tup {d : PyData} (h : ¬ ∃ ds, d = .tuple ds) : kitD d "tuple" = false := by
  cases d with
  | tuple ds => exact absurd ⟨ds, rfl⟩ h
  | _ => simp [kitD, tyN]
/-! ### are_any_rows, is_rising, are_rows -/
theorem all_id (bs : List Bool) (f : PyData → Bool) (ds : List PyData) (h : bs = ds.map f) : bs.all id = ds.all f := by
  rw [h, List.all_map]
  rfl
def anyB (n : Int) : PyData → Bool
  | .tuple ds => ds.all (isNum 0 (n - 1))
  | _ => false
def tupZ (d : PyData) : Prop := ∀ ds, d = .tuple ds → ds.length ≤ 1000000
def spAnyRows : Sp := fun vs H Q _ => ∃ (v : V) (d : PyData) (n : Int), vs = [v, .int n] ∧ Is [] H d v ∧ tupZ d ∧ ∀ H', Adv [] H H' → Q (.bl (anyB n d)) H'
theorem ok_are_any_rows (A : All K mg w) : FnOk P w K mg base CX0 3 A.are_any_rows.f A.are_any_rows.fd ["value", "count"] spAnyRows := by
  refine A.are_any_rows.F.ok sc_are_any_rows (fun vs H Q E h => ?_) (fun cdv Ar outer s H vs Q E hr h => ?_)
  · obtain ⟨v, d, n, rfl, _⟩ := h
    rfl
  · obtain ⟨v, d, n, rfl, hv, hz, q⟩ := h
    refine ⟨_, (pss_one (ps_ret (pe_and (pe_callB call_isi (by rfl) A.T.isinstance (by decide +kernel) (pa_cons (pv 0) (pa_cons (pe_bltn (v := .ty "tuple") (by rfl) A.T.tuple (by decide +kernel) rfl) pa_nil))) (pe_one (pe_callB (cr_all rfl) (by rfl) A.T.all (by decide +kernel) (pa_cons (pe_lc (own := [("item", 2)]) (g := gName 2) rfl sc_are_any_rows.nd (pi_tup (pv 0)) (blkOk_by (own := [("item", 2)]) (N := ["value", "count", "item"]) (sc := defScope s_are_any_rows) (by decide +kernel)) (fun _ _ _ _ _ => pg_name (i := 2) sc_are_any_rows.nd rfl (Or.inl rfl)) (fun _ _ _ _ _ => pts_nil) (fun _ _ _ _ _ => (pe_call (ok_is_between A) (hr.mono (by omega)) rfl A.is_between.m A.is_between.F.kp A.is_between.b .nil pass0 (pa_cons (pv 2) (pa_cons pe_int (pa_cons (pe_op op_sub (pv 1) pe_int) pa_nil)))))) pa_nil)))))), ?_⟩
    refine ⟨_, rfl, _, _, _, _, _, rfl, .ty _, hv.ty A.W, k_tuple d, _, rfl, ?_⟩
    by_cases ht : ∃ ds, d = .tuple ds
    · obtain ⟨ds, rfl⟩ := ht
      have hz := hz ds rfl
      obtain ⟨a, vs, rfl, htp, hs⟩ := hv.tupE
      have hl := hs.len
      refine iteY (by simp [kitD, tyN]) ?_
      refine ⟨_, rfl, a, rfl, ⟨_, htp.sq A.W⟩, fun D nD => ?_⟩
      refine lc_mapT (K := K) (a := a) (xs := vs) (fun i => V.bl (isNum 0 (n - 1) (ds.getD i .none))) nD (htp.sq A.W) (by omega) ?_ ?_
      · intro i x H' acc R hx aH hD k
        obtain ⟨dx, hdx, hisx⟩ := hs.getV hx
        have ed : ds.getD i .none = dx := by rw [List.getD_eq_getElem?_getD, hdx]; rfl
        refine ⟨rfl, x, rfl, _, rfl, n, 1, rfl, rfl, x, dx, 0, n - 1, rfl, (hisx.adv aH), ?_⟩
        have k' := k H' hD aH
        rw [ed] at k'
        exact k'
      · intro H' aH hD
        refine ⟨D, ds.map (isNum 0 (n - 1)), rfl, .inl (.inl ?_), ?_⟩
        · rw [hD, hl, range_map_list]
        · rw [all_id _ (isNum 0 (n - 1)) ds rfl]
          exact q H' aH
    · refine iteN (not_tup ht) ?_
      have q' := q H (Adv.refl _ _)
      cases d with
      | tuple ds => exact absurd ⟨ds, rfl⟩ ht
      | _ => exact q'
def spRising : Sp := fun vs H Q _ => ∃ (a : Addr) (rows : List Nat), vs = [.ref a] ∧ Tp [] H a (nVl rows) ∧ rows.length ≤ 1000000 ∧ ∀ H', Adv [] H H' → Q (.bl (risB (rows.map fun r => ((r : Nat) : Int)))) H'
theorem ok_is_rising (A : All K mg w) : FnOk P w K mg base CX0 1 A.is_rising.f A.is_rising.fd ["values"] spRising := by
  refine A.is_rising.F.ok sc_is_rising (fun vs H Q E h => ?_) (fun cdv Ar outer s H vs Q E hr h => ?_)
  · obtain ⟨a, rows, rfl, _⟩ := h
    rfl
  · obtain ⟨a, rows, rfl, hT, hz, q⟩ := h
    refine ⟨_, (pss_one (ps_ret (pe_callB (cr_all rfl) (by rfl) A.T.all (by decide +kernel) (pa_cons (pe_lc (own := [("k", 1)]) (g := gName 1) rfl sc_is_rising.nd (pi_range2 rfl A.T.range (pa_cons pe_int (pa_cons (pe_callB call_len_seq (by rfl) A.T.len PySem.boot_len (pa_cons (pv 0) pa_nil)) pa_nil))) (blkOk_by (own := [("k", 1)]) (N := ["values", "k"]) (sc := defScope s_is_rising) (by decide +kernel)) (fun _ _ _ _ _ => pg_name (i := 1) sc_is_rising.nd rfl (Or.inl rfl)) (fun _ _ _ _ _ => pts_nil) (fun _ _ _ _ _ => (pe_cmpR op_lt (pe_ix (ix_any K rfl) (pv 0) (pe_op op_sub (pv 1) pe_int) (fun _ _ => rfl)) (pe_ix (ix_any K rfl) (pv 0) (pv 1) (fun _ _ => rfl)) (nomark _)))) pa_nil)))), ?_⟩
    have hl : (nVl rows).length = rows.length := by unfold nVl; rw [List.length_map]
    have sq := hT.sq A.W
    refine ⟨_, rfl, a, _, rfl, .inr sq, 1, _, rfl, ⟨by decide, by decide, by omega, by rw [hl]; omega⟩, fun D nD => ?_⟩
    have hn : (((nVl rows).length : Nat) - 1 : Int).toNat = rows.length - 1 := by rw [hl]; omega
    rw [hn]
    have at_ : ∀ (j : Nat) (i : Int), j < rows.length → i = (j : Nat) → atI (nVl rows) i = some (.int (rows.getD j 0 : Nat)) := fun j i hj e => by
      rw [e]
      refine atI_nat (j := j) ?_
      unfold nVl
      simp [hj]
    refine lc_mapRl (fun i => V.bl (decide (((rows.getD i 0 : Nat) : Int) < (rows.getD (i + 1) 0 : Nat)))) nD (by omega) ?_ ?_
    · intro i H' acc R hi aH hD k
      have sq' := SqT.adv aH sq
      refine ⟨rfl, _, rfl, _, rfl, 1 + (i : Int), 1, rfl, rfl, .inr ⟨a, _, _, _, rfl, rfl, sq', at_ i _ (by omega) (by omega), _, rfl, _, rfl, .inr ⟨a, _, _, _, rfl, rfl, sq', at_ (i + 1) _ (by omega) (by omega), _, _, rfl, rfl, k H' hD aH⟩⟩⟩
    · intro H' aH hD
      refine ⟨D, (List.range (rows.length - 1)).map fun i => decide (((rows.getD i 0 : Nat) : Int) < (rows.getD (i + 1) 0 : Nat)), rfl, .inl (.inl ?_), ?_⟩
      · rw [hD, List.map_map]
        rfl
      · have q' := q H' aH
        have e : (List.map (fun i => decide (((rows.getD i 0 : Nat) : Int) < (rows.getD (i + 1) 0 : Nat))) (List.range (rows.length - 1))).all id = risB (rows.map fun r => ((r : Nat) : Int)) := by
          unfold risB
          rw [List.all_map, List.length_map]
          have gd : ∀ j : Nat, (rows.map fun r => ((r : Nat) : Int)).getD j 0 = ((rows.getD j 0 : Nat) : Int) := fun j => by
            rw [List.getD_eq_getElem?_getD, List.getD_eq_getElem?_getD, List.getElem?_map]
            cases rows[j]? <;> rfl
          congr 1
          funext i
          rw [gd, gd]
          rfl
        rw [e]
        exact q'
theorem adv_raise {H1 : Hp} {a dx : Addr} {o1 o2 o3 o4 : HO} (na : H1 a = none) (n1 : H1 dx = none) : Adv [] H1 (upd (del (upd (upd (upd H1 a o1) dx o2) a o3) a) dx o4) := fun b o hb eb => by
  have hba : b ≠ a := ne_of_none eb na
  have hbd : b ≠ dx := ne_of_none eb n1
  rw [upd_ne hbd, del_ne hba, upd_ne hba, upd_ne hbd, upd_ne hba]
  exact eb
theorem any_rows {n : Int} {d : PyData} (h : anyB n d = true) : ∃ rows : List Nat, d = .tuple (nD rows) ∧ ∀ r ∈ rows, (r : Int) < n := by
  cases d with
  | tuple ds =>
    obtain ⟨rows, rfl, h2⟩ := all_nat (n := n) h
    exact ⟨rows, rfl, h2⟩
  | _ => cases h
theorem rowsB_any {n : Int} {d : PyData} (h : anyB n d = false) : rowsB n d = false := by
  cases d with
  | tuple ds =>
    have h : ds.all (isNum 0 (n - 1)) = false := h
    show (ds.all (isNum 0 (n - 1)) && _) = false
    rw [h, Bool.false_and]
  | _ => rfl
theorem rowsB_ris {n : Int} {rows : List Nat} (h : anyB n (.tuple (nD rows)) = true) : rowsB n (.tuple (nD rows)) = risB (rows.map fun r => ((r : Nat) : Int)) := by
  have h : (nD rows).all (isNum 0 (n - 1)) = true := h
  show ((nD rows).all (isNum 0 (n - 1)) && risB ((nD rows).map LL.intD)) = _
  rw [h, Bool.true_and, nD_int]
/-! ### are_rows -/
def spAreRows : Sp := fun vs H Q _ => ∃ (v : V) (d : PyData) (n : Int), vs = [v, .int n] ∧ Is [] H d v ∧ tupZ d ∧ ∀ H', Adv [] H H' → Q (.bl (rowsB n d)) H'
theorem ok_are_rows (A : All K mg w) : FnOk P w K mg base CX0 4 A.are_rows.f A.are_rows.fd ["value", "count"] spAreRows := by
  refine A.are_rows.F.ok sc_are_rows (fun vs H Q E h => ?_) (fun cdv Ar outer s H vs Q E hr h => ?_)
  · obtain ⟨v, d, n, rfl, _⟩ := h
    rfl
  · obtain ⟨v, d, n, rfl, hv, hz, q⟩ := h
    refine ⟨_, (pss_one (ps_ret (pe_and (pe_call (ok_are_any_rows A) (hr.mono (by omega)) rfl A.are_any_rows.m A.are_any_rows.F.kp A.are_any_rows.b .nil pass0 (pa_cons (pv 0) (pa_cons (pv 1) pa_nil))) (pe_one (pe_call (ok_is_rising A) (hr.mono (by omega)) rfl A.is_rising.m A.is_rising.F.kp A.is_rising.b .nil pass0 (pa_cons (pv 0) pa_nil)))))), ?_⟩
    walk_at "rd"
    refine ⟨v, d, n, rfl, hv, hz, fun H1 a1 => ?_⟩
    walk_at "rd"
    cases e : anyB n d with
    | false =>
      refine iteN rfl ?_
      have q' := q H1 a1
      rw [rowsB_any e] at q'
      exact q'
    | true =>
      obtain ⟨rows, rfl, hr⟩ := any_rows e
      refine iteY rfl ?_
      obtain ⟨a, vs, rfl, htp, hs⟩ := hv.tupE
      have hl := hz _ rfl
      rw [show (nD rows).length = rows.length from List.length_map ..] at hl
      rw [nD_of hs] at htp
      walk_at "rd"
      refine ⟨a, rows, rfl, htp.adv a1, hl, fun H2 a2 => ?_⟩
      have q' := q H2 (a1.trans a2)
      rw [rowsB_ris e] at q'
      exact q'
theorem passN0 {X : Cx} : Passes (L2N.CX X.prog X.w) X E0 := fun pins σ H s e s' _ h => by
  obtain ⟨_, _, _, _, _, _, _, _, _, _, _, _, e⟩ := h
  exact e.elim
/-! ### check_between -/
def spChk (cV : Addr) : Sp := fun vs H Q E => ∃ (v : V) (d : PyData) (lo hi : Int) (nm : Str), vs = [v, .int lo, .int hi, .str nm] ∧ Is [] H d v ∧ (isNum lo hi d = true → Q .non H) ∧
  (isNum lo hi d = false → ∀ dd H', Adv [] H H' → H dd = none → H' dd = some (.xd [("name", .str nm)]) → E (.ref cV) (some dd) H')
theorem ok_check_between (A : All K mg w) (Z : Exs K mg) (Z2 : Er_BadValue Z) : FnOk P w K mg base (L2N.CX P w) 3 A.check_between.f A.check_between.fd ["value", "low", "high", "name"] (spChk (Z.cA "BadValue")) := by
  refine okXN A.check_between.F sc_check_between (fun vs H Q E h => ?_) (fun cdv Ar outer s H vs Q E hr h => ?_)
  · obtain ⟨v, d, lo, hi, nm, rfl, _⟩ := h
    rfl
  · obtain ⟨v, d, lo, hi, nm, rfl, hv, q1, q2⟩ := h
    refine ⟨_, (pss_one (ps_if (pt_not (pt_val (pe_call (ok_is_between A) (hr.mono (by omega)) rfl A.is_between.m A.is_between.F.kp A.is_between.b .nil pass0 (pa_cons (pv 0) (pa_cons (pv 1) (pa_cons (pv 2) pa_nil))))))
    (pss_one (L2N.ps_raise rfl (L2N.takes_of rfl rfl rfl rfl) (pmk_initN Z2.O Z2.I Z2.T (ok_BadValue Z2) (hr.mono (by omega)) Z2.b .nil pass0 rfl (Z.mA "BadValue" (by decide)) (pa_cons (pv 3) pa_nil))))
    pss_nil)), ?_⟩
    walk_at "rd"
    refine ⟨v, d, lo, hi, rfl, hv, ?_⟩
    walk_at "rd"
    cases e : isNum lo hi d with
    | true => exact iteN rfl (q1 e)
    | false =>
      refine iteY rfl ?_
      refine ⟨_, rfl, Nat.le_of_ble_eq_true rfl, fun a na => ⟨a, .str nm, rfl, upd_same, fun dx n1 n2 => ⟨rfl, dx, [("name", .str nm)], upd_same, ?_, ?_, ?_⟩⟩⟩
      · rw [upd_ne n2, upd_same]
      · rw [upd_ne n2] at n1
        exact n1
      · have n1' : H dx = none := by rw [upd_ne n2] at n1; exact n1
        exact q2 e dx _ (adv_raise na n1') n1' upd_same
/-! ### bits_of, numbers_in -/
def spBits : Sp := fun vs H Q _ => ∃ (a : Addr) (rows : List Nat), vs = [.ref a] ∧ Tp [] H a (nVl rows) ∧ (∀ r ∈ rows, r ≤ 500) ∧ Q (.int (bitsN rows : Nat)) H
theorem nVl_at {rows : List Nat} {i : Nat} {x : V} (h : (nVl rows)[i]? = some x) : ∃ k : Nat, rows[i]? = some k ∧ x = .int (k : Nat) := by
  unfold nVl at h
  rw [List.getElem?_map, Option.map_eq_some_iff] at h
  obtain ⟨k, hk, rfl⟩ := h
  exact ⟨k, hk, rfl⟩
theorem take_snoc {α : Type} {l : List α} {i : Nat} {k : α} (h : l[i]? = some k) : l.take (i + 1) = l.take i ++ [k] := by rw [List.take_add_one, h]; rfl
theorem nVl_ln (rows : List Nat) : (nVl rows).length = rows.length := by unfold nVl; rw [List.length_map]
theorem ok_bits_of (A : All K mg w) : FnOk P w K mg base CX0 1 A.bits_of.f A.bits_of.fd ["numbers"] spBits := by
  refine A.bits_of.F.ok sc_bits_of (fun vs H Q E h => ?_) (fun cdv Ar outer s H vs Q E hr h => ?_)
  · obtain ⟨a, rows, rfl, _⟩ := h
    rfl
  · obtain ⟨a, rows, rfl, hT, hr5, q⟩ := h
    refine ⟨_, (pss_cons (ps_set (i := 1) sc_bits_of.nd rfl (Or.inl rfl) pe_int)
  (pss_cons (ps_for PassesOwn.never rfl (pi_tup (pv 0)) (pg_name (i := 2) sc_bits_of.nd rfl (Or.inl rfl))
    (pss_one (ps_set (i := 1) sc_bits_of.nd rfl (Or.inl rfl) (pe_op op_or (pv 1) (pe_op op_shl pe_int (pv 2))))))
  (pss_one (ps_ret (pv 1))))), ?_⟩
    have sq := hT.sq A.W
    walk_at "rd"
    refine ⟨_, rfl, a, rfl, ⟨_, sq⟩, ?_⟩
    refine for_tup (a := a) (xs := nVl rows) (fun i σ' H' => H' = H ∧ ∃ y, σ' = [some (.ref a), some (.int (bitsN (rows.take i) : Nat)), y]) ⟨rfl, _, rfl⟩ ?_ ?_ ?_
    · rintro i σ' H' hi ⟨rfl, y, rfl⟩
      exact sq
    · rintro i x σ' H' hx ⟨rfl, y, rfl⟩
      obtain ⟨k, hk, rfl⟩ := nVl_at hx
      have := hr5 k (List.mem_of_getElem? hk)
      walk_at "rd"
      refine rd_shl1 (by omega) (rd_bor ?_)
      walk_at "rd"
      refine ⟨some (.int (k : Nat)), ?_⟩
      rw [take_snoc hk, bitsN_snoc]
      rfl
    · rintro σ' H' ⟨rfl, y, rfl⟩
      rw [nVl_ln, List.take_length]
      walk_at "rd"
      exact q
theorem ok_law_bits (A : All K mg w) : FnOk P w K mg base CX0 1 A.law_bits.f A.law_bits.fd ["rows"] spBits := by
  refine A.law_bits.F.ok sc_law_bits (fun vs H Q E h => ?_) (fun cdv Ar outer s H vs Q E hr h => ?_)
  · obtain ⟨a, rows, rfl, _⟩ := h
    rfl
  · obtain ⟨a, rows, rfl, hT, hr5, q⟩ := h
    refine ⟨_, (pss_cons (ps_set (i := 1) sc_law_bits.nd rfl (Or.inl rfl) pe_int)
  (pss_cons (ps_for PassesOwn.never rfl (pi_tup (pv 0)) (pg_name (i := 2) sc_law_bits.nd rfl (Or.inl rfl))
    (pss_one (ps_set (i := 1) sc_law_bits.nd rfl (Or.inl rfl) (pe_op op_or (pv 1) (pe_op op_shl pe_int (pv 2))))))
  (pss_one (ps_ret (pv 1))))), ?_⟩
    have sq := hT.sq A.W
    walk_at "rd"
    refine ⟨_, rfl, a, rfl, ⟨_, sq⟩, ?_⟩
    refine for_tup (a := a) (xs := nVl rows) (fun i σ' H' => H' = H ∧ ∃ y, σ' = [some (.ref a), some (.int (bitsN (rows.take i) : Nat)), y]) ⟨rfl, _, rfl⟩ ?_ ?_ ?_
    · rintro i σ' H' hi ⟨rfl, y, rfl⟩
      exact sq
    · rintro i x σ' H' hx ⟨rfl, y, rfl⟩
      obtain ⟨k, hk, rfl⟩ := nVl_at hx
      have := hr5 k (List.mem_of_getElem? hk)
      walk_at "rd"
      refine rd_shl1 (by omega) (rd_bor ?_)
      walk_at "rd"
      refine ⟨some (.int (k : Nat)), ?_⟩
      rw [take_snoc hk, bitsN_snoc]
      rfl
    · rintro σ' H' ⟨rfl, y, rfl⟩
      rw [nVl_ln, List.take_length]
      walk_at "rd"
      exact q
/-- the comprehension over the bits -/
theorem nV_bits (n x : Nat) : (((List.range n).filter fun i => x.testBit i).map fun i => V.int (0 + ((i : Nat) : Int))) = nVl (bitsL n x) := by
  unfold nVl bitsL
  congr 1
  funext i
  rw [Int.zero_add]
def spListed : Sp := fun vs H Q _ => ∃ (x n : Nat), vs = [.int (x : Nat), .int (n : Nat)] ∧ n ≤ 500 ∧ ∀ D H', H D = none → H' D = some (.lst (nVl (bitsL n x))) → Adv [] H H' → Q (.ref D) H'
theorem ok_law_listed (A : All K mg w) : FnOk P w K mg base CX0 1 A.law_listed.f A.law_listed.fd ["bits", "many"] spListed := by
  refine A.law_listed.F.ok sc_law_listed (fun vs H Q E h => ?_) (fun cdv Ar outer s H vs Q E hr h => ?_)
  · obtain ⟨x, n, rfl, _⟩ := h
    rfl
  · obtain ⟨x, n, rfl, hn, q⟩ := h
    refine ⟨_, (pss_one (ps_ret (pe_lc (own := [("at", 2)]) (g := gName 2) rfl sc_law_listed.nd (pi_range1 rfl A.T.range (pa_cons (pv 1) pa_nil)) (blkOk_by (own := [("at", 2)]) (N := ["bits", "many", "at"]) (sc := defScope s_law_listed) (by decide +kernel)) (fun _ _ _ _ _ => pg_name (i := 2) sc_law_listed.nd rfl (Or.inl rfl)) (fun _ _ _ _ _ => pts_one (pt_cmpR op_ne (pe_op op_and (pv 0) (pe_op op_shl pe_int (pv 2))) pe_int (nomark _))) (fun _ _ _ _ _ => (pv 2))))), ?_⟩
    walk_at "rd"
    refine ⟨_, rfl, (n : Nat), rfl, by omega, by omega, fun D nD => ?_⟩
    refine lc_filtRl (lo := 0) (n := ((n : Nat) : Int).toNat) (fun i => V.int (0 + ((i : Nat) : Int))) (fun i => x.testBit i) nD (by omega) ?_ ?_
    · intro i H' acc R R0 hi aH hD k k0
      refine ⟨rfl, _, rfl, ?_⟩
      walk_at "rd"
      rw [Int.zero_add]
      refine rd_shl1 (by omega) (rd_band ?_)
      walk_at "rd"
      rw [and_pow, Bool.not_not]
      refine iteB (fun e => ?_) (fun e => ?_)
      · have := k e H' hD aH
        rw [Int.zero_add] at this
        exact ⟨_, rfl, this⟩
      · exact k0 e H' hD aH
    · intro H' aH hD
      rw [Int.toNat_natCast, nV_bits] at hD
      exact q D H' nD hD aH
def spNumIn : Sp := fun vs H Q _ => ∃ (x n : Nat), vs = [.int (x : Nat), .int (n : Nat)] ∧ n ≤ 500 ∧ ∀ t H', H t = none → H' t = some (.tup (nVl (bitsL n x))) → Adv [] H H' → Q (.ref t) H'
theorem ok_numbers_in (A : All K mg w) : FnOk P w K mg base CX0 1 A.numbers_in.f A.numbers_in.fd ["bits", "many"] spNumIn := by
  refine A.numbers_in.F.ok sc_numbers_in (fun vs H Q E h => ?_) (fun cdv Ar outer s H vs Q E hr h => ?_)
  · obtain ⟨x, n, rfl, _⟩ := h
    rfl
  · obtain ⟨x, n, rfl, hn, q⟩ := h
    refine ⟨_, (pss_one (ps_ret (pe_callTy call_tuple_of (by rfl) A.T.tuple (by decide +kernel) (pa_cons (pe_lc (own := [("k", 2)]) (g := gName 2) rfl sc_numbers_in.nd (pi_range1 rfl A.T.range (pa_cons (pv 1) pa_nil)) (blkOk_by (own := [("k", 2)]) (N := ["bits", "many", "k"]) (sc := defScope s_numbers_in) (by decide +kernel)) (fun _ _ _ _ _ => pg_name (i := 2) sc_numbers_in.nd rfl (Or.inl rfl)) (fun _ _ _ _ _ => pts_one (pt_cmpR op_ne (pe_op op_and (pv 0) (pe_op op_shl pe_int (pv 2))) pe_int (nomark _))) (fun _ _ _ _ _ => (pv 2))) pa_nil)))), ?_⟩
    walk_at "rd"
    refine ⟨_, rfl, (n : Nat), rfl, by omega, by omega, fun D nD => ?_⟩
    refine lc_filtRl (lo := 0) (n := ((n : Nat) : Int).toNat) (fun i => V.int (0 + ((i : Nat) : Int))) (fun i => x.testBit i) nD (by omega) ?_ ?_
    · intro i H' acc R R0 hi aH hD k k0
      refine ⟨rfl, _, rfl, ?_⟩
      walk_at "rd"
      rw [Int.zero_add]
      refine rd_shl1 (by omega) (rd_band ?_)
      walk_at "rd"
      rw [and_pow, Bool.not_not]
      refine iteB (fun e => ?_) (fun e => ?_)
      · have := k e H' hD aH
        rw [Int.zero_add] at this
        exact ⟨_, rfl, this⟩
      · exact k0 e H' hD aH
    · intro H' aH hD
      rw [Int.toNat_natCast, nV_bits] at hD
      refine ⟨D, _, rfl, .inl ⟨SqL.of hD, fun t nt => ?_⟩⟩
      exact q t _ (aH.free (by simp) nt) upd_same (aH.newT nt)
end
end K89

set_option Elab.async false
set_option linter.all false
set_option maxRecDepth 100000
set_option maxHeartbeats 400000
namespace K89
open PySem PySem.Spec PyProof.Rows L2 LL
open C8 (pss_cut)
local macro_rules | `(tactic| walk_at "ne") => `(tactic| first | assumption | (apply Ne.symm; assumption) | exact ne_of_none (by walk_at "hp") (by assumption) | exact (ne_of_none (by walk_at "hp") (by assumption)).symm)
local macro_rules | `(tactic| walk_at "nm") => `(tactic| first | assumption | exact notin0 | exact notin1 (by walk_at "ne") | exact notin2 (by walk_at "ne") (by walk_at "ne"))
local macro_rules | `(tactic| walk_at "hp") => `(tactic| first | assumption | exact upd_same | (refine Eq.trans (upd_ne ?ne) ?hh; (case hh => walk_at "hp"); (case ne => walk_at "ne")) | (refine Adv.get' (by assumption) ?hh ?nn; (case hh => walk_at "hp"); (case nn => walk_at "nm")))
local macro_rules | `(tactic| walk_at "tp") => `(tactic| first | assumption | exact Tp.adv (by walk_at "tp") (by assumption) | exact Tp.adv (by walk_at "tp") (Adv.nil (by assumption)))
local macro_rules | `(tactic| walk_at "sq") => `(tactic| first | assumption | exact Tp.sq (by assumption) (by walk_at "tp") | exact SqT.of (by walk_at "hp"))
local macro_rules | `(tactic| walk_at "at") => `(tactic| first | exact atI_nat (j := 0) rfl | exact atI_nat (j := 1) rfl | exact atI_nat (j := 2) rfl | exact atI_nat (j := 3) rfl | exact atI_nat (by assumption) | (rw [Int.zero_add]; exact atI_nat (by assumption)))
local macro_rules | `(tactic| walk_at "bb") => `(tactic| first | assumption | decide | exact rfl)
local macro_rules | `(tactic| walk_at "ci") => `(tactic| first | omega | (dsimp only; omega) | (unfold CDiv; omega) | (unfold CMul; omega))
local macro_rules | `(tactic| walk_at "rd1") => `(tactic| first
  | with_reducible refine rd_c ?_
  | ((with_reducible refine' rd_var ?rh ?_); (case rh => exact rfl))
  | with_reducible refine rd_op ?_
  | with_reducible refine rd_seq ?_
  | with_reducible refine rd_asg ?_
  | with_reducible refine rd_gname ?_
  | with_reducible refine rd_ifS ?_
  | with_reducible refine rd_test ?_
  | with_reducible refine rd_tB ?_
  | with_reducible refine rd_blP ?_
  | ((with_reducible refine' iteY ?rh ?_); (case rh => walk_at "bb"))
  | ((with_reducible refine' iteN ?rh ?_); (case rh => walk_at "bb"))
  | with_reducible refine rd_ret ?_
  | with_reducible refine rd_nx ?_
  | ((with_reducible refine' rd_eq ?rh ?_); (case rh => exact rfl))
  | ((with_reducible refine' rd_ne ?rh ?_); (case rh => exact rfl))
  | with_reducible refine rd_add ?_
  | with_reducible refine rd_sub ?_
  | with_reducible refine rd_i0 ?_
  | with_reducible refine rd_and ?_
  | with_reducible refine rd_or ?_
  | with_reducible refine rd_not ?_
  | with_reducible refine rd_andV ?_
  | with_reducible refine rd_orV ?_
  | with_reducible refine rd_notV ?_
  | with_reducible refine rd_ifE ?_
  | with_reducible refine rd_isN ?_
  | with_reducible refine rd_notN ?_
  | with_reducible refine rd_cons ?_
  | with_reducible refine rd_nil ?_
  | with_reducible refine rd_tup ?_
  | with_reducible refine rd_lst ?_
  | with_reducible refine rd_call ?_
  | with_reducible refine rd_cb ?_
  | with_reducible refine rd_meth ?_
  | with_reducible refine rd_callS ?_
  | with_reducible refine rd_make ?_
  | with_reducible refine rd_rfl ?_
  | with_reducible refine rd_fld ?_
  | with_reducible refine rd_drop ?_
  | with_reducible refine rd_gsub ?_
  | with_reducible refine rd_gcons ?_
  | with_reducible refine rd_gnil ?_
  | with_reducible refine rd_par ?_
  | with_reducible refine rd_two ?_
  | with_reducible refine rd_par3 ?_
  | with_reducible refine rd_three ?_
  | with_reducible refine rd_int1 ?_
  | ((with_reducible refine' rd_i ?rh ?_); (case rh => walk_at "ci"))
  | with_reducible refine rd_part ?_
  | with_reducible refine rd_nopart ?_
  | with_reducible refine rd_int ?_
  | with_reducible refine rd_sl ?_
  | with_reducible refine rd_bm ?_
  | with_reducible refine rd_bm0 ?_
  | with_reducible refine rd_dgetT ?_
  | with_reducible refine rd_din ?_
  | with_reducible refine rd_dnin ?_
  | with_reducible refine rd_un ?_
  | ((with_reducible refine' rd_ixL ?rh ?re ?_); (case rh => walk_at "hp"); (case re => walk_at "at"))
  | ((with_reducible refine' rd_ixT ?rh ?re ?_); (case rh => walk_at "sq"); (case re => walk_at "at"))
  | ((with_reducible refine' rd_lenT ?rh ?_); (case rh => walk_at "sq"))
  | ((with_reducible refine' rd_tyL ?rh ?_); (case rh => walk_at "hp"))
  | ((with_reducible refine' rd_len ?rh ?_); (case rh => walk_at "hp"))
  | with_reducible refine rd_u ?_
  | ((with_reducible refine' rd_slL ?rh ?_); (case rh => walk_at "hp"))
  | with_reducible refine rd_for ?_
  | with_reducible refine rd_rng1 ?_
  | with_reducible refine rd_rng2 ?_
  | with_reducible refine rd_ints1 ?_
  | with_reducible refine rd_ints2 ?_
  | with_reducible refine rd_retN ?_)
local macro_rules | `(tactic| walk_at "rd") => `(tactic| repeat walk_at "rd1")
section
variable [KW]
variable {P : Program} {w : World} {K : PySem.W.Frag} {mg : Str → Option Value} {base : Heap}
theorem leastF_len (T : List Nat) (m : Nat) : ((List.range m).foldl (leastStep T) []).length ≤ m :=
  nodup_lt (asc_nodup (leastF_asc T m)) fun x hx => ((leastF_mem T m x).mp hx).1
theorem all_bl {α : Type} (l : List α) (f : α → Bool) : l.map (fun k => V.bl (f k)) = (l.map f).map V.bl := by rw [List.map_map]; rfl
theorem all_id' {α : Type} (l : List α) (f : α → Bool) : (l.map f).all id = l.all f := by rw [List.all_map]; rfl
theorem any_id' {α : Type} (l : List α) (f : α → Bool) : (l.map f).any id = l.any f := by rw [List.any_map]; rfl
/-! ### least_crossing -/
def spLeast : Sp := fun vs H Q _ => ∃ (n : Nat) (l : Addr) (T : List Nat), vs = [.int (n : Nat), .ref l] ∧ n ≤ 12 ∧ H l = some (.lst (nVl T)) ∧ T.length ≤ 1000000 ∧ ∀ f H', H f = none → H' f = some (.lst (nVl (leastF n T))) → Adv [] H H' → Q (.ref f) H'
theorem ok_least_crossing (A : All K mg w) : FnOk P w K mg base CX0 1 A.least_crossing.f A.least_crossing.fd ["many", "sets"] spLeast := by
  refine A.least_crossing.F.ok sc_least_crossing (fun vs H Q E h => ?_) (fun cdv Ar outer s H vs Q E hr h => ?_)
  · obtain ⟨n, l, T, rfl, _⟩ := h
    rfl
  · obtain ⟨n, l, T, rfl, hn, hl, hz, q⟩ := h
    refine ⟨_, (pss_cons (ps_set (i := 2) sc_least_crossing.nd rfl (Or.inl rfl) (pe_lst pa_nil))
  (pss_cons (ps_for PassesOwn.never rfl (pi_range1 rfl A.T.range (pa_cons (pe_op op_shl pe_int (pv 0)) pa_nil)) (pg_name (i := 3) sc_least_crossing.nd rfl (Or.inr rfl))
    (pss_one (ps_if (PW.pt (pw_and (pt_val (pe_callB (cr_all rfl) (by rfl) A.T.all (by decide +kernel) (pa_cons (pe_lc (own := [("other", 4)]) (g := gName 4) rfl sc_least_crossing.nd (pi_list (pv 1)) (blkOk_by (own := [("other", 4)]) (N := ["many", "sets", "found", "bits", "other", "less"]) (sc := defScope s_least_crossing) (by decide +kernel)) (fun _ _ _ _ _ => pg_name (i := 4) sc_least_crossing.nd rfl (Or.inl rfl)) (fun _ _ _ _ _ => pts_nil) (fun _ _ _ _ _ => (pe_cmpR op_ne (pe_op op_and (pv 3) (pv 4)) pe_int (nomark _)))) pa_nil))) (pw_and1 (pt_not (pt_val (pe_callB (cr_any rfl) (by rfl) A.T.any (by decide +kernel) (pa_cons (pe_lc (own := [("less", 5)]) (g := gName 5) rfl sc_least_crossing.nd (pi_list (pv 2)) (blkOk_by (own := [("less", 5)]) (N := ["many", "sets", "found", "bits", "other", "less"]) (sc := defScope s_least_crossing) (by decide +kernel)) (fun _ _ _ _ _ => pg_name (i := 5) sc_least_crossing.nd rfl (Or.inl rfl)) (fun _ _ _ _ _ => pts_nil) (fun _ _ _ _ _ => (pe_cmpR op_eq (pe_op op_and (pv 3) (pv 5)) (pv 5) (nomark _)))) pa_nil)))))))
    (pss_one (ps_expr (pe_bm PySem.F.plainAttrs_list PySem.F.slot_list_append PySem.F.type_list_append mt_append (pv 2) (pa_cons (pv 3) pa_nil))))
    pss_nil)))
  (pss_one (ps_ret (pv 2))))), ?_⟩
    walk_at "rd"
    refine ⟨Nat.zero_le _, fun f nf => ?_⟩
    have lf : l ≠ f := ne_of_none hl nf
    have a0 : Adv [] H (upd H f (.lst [])) := Adv.new nf
    have h2 : 2 ^ n ≤ 2 ^ 12 := Nat.pow_le_pow_right (by decide) hn
    walk_at "rd"
    refine rd_shl1 (by omega) ?_
    walk_at "rd"
    refine ⟨Int.le_trans (by decide) (Int.natCast_nonneg _), Int.lt_of_le_of_lt (Int.ofNat_le.mpr h2) (by decide), ?_⟩
    refine for_range (lo := 0) (n := ((2 ^ n : Nat) : Int).toNat) (fun i σ' H' => ∃ y, σ' = [some (.int (n : Nat)), some (.ref l), some (.ref f), y, none, none] ∧ H' f = some (.lst (nVl ((List.range i).foldl (leastStep T) []))) ∧ Adv [] H H') ⟨_, rfl, upd_same, a0⟩ ?_ ?_
    · rintro i σ' H1 hi ⟨y, rfl, hf, a1⟩
      have hl1 := a1.same _ _ hl
      have hlen := leastF_len T i
      rw [Int.toNat_natCast] at hi
      generalize hF : (List.range i).foldl (leastStep T) [] = F at hf hlen
      have es : (List.range (i + 1)).foldl (leastStep T) [] = leastStep T F i := by rw [List.range_succ, List.foldl_append, hF]; rfl
      rw [Int.zero_add]
      walk_at "rd"
      refine ⟨_, rfl, l, rfl, ⟨_, SqL.of hl1⟩, fun D1 nD1 => ?_⟩
      refine lc_natL (T := T) (fun k => V.bl (decide (i &&& k ≠ 0))) nD1 hl1 hz ?_ ?_
      · intro k H' acc R hk aH hD r
        refine ⟨rfl, ?_⟩
        walk_at "rd"
        rw [band]
        have e : (!decide (V.int ((i &&& k : Nat) : Int) = V.int 0)) = decide (i &&& k ≠ 0) := by
          by_cases c : i &&& k = 0
          · rw [c]; rfl
          · rw [decide_eq_true c, decide_eq_false (fun z => c (by have := V.int.inj z; omega))]; rfl
        rw [e]
        exact r H' hD aH
      · intro H2 a2 hD1
        refine ⟨D1, T.map fun k => decide (i &&& k ≠ 0), rfl, .inl (.inl (by rw [hD1, all_bl])), ?_⟩
        rw [all_id']
        walk_at "rd"
        have hf2 := a2.same _ _ hf
        refine iteB (fun e1 => ?_) (fun e1 => ?_)
        · walk_at "rd"
          refine ⟨_, rfl, f, rfl, ⟨_, SqL.of hf2⟩, fun D2 nD2 => ?_⟩
          refine lc_natL (T := F) (fun k => V.bl (decide (i &&& k = k))) nD2 hf2 (by omega) ?_ ?_
          · intro k H' acc R hk aH hD r
            refine ⟨rfl, ?_⟩
            walk_at "rd"
            rw [band]
            have e : decide (V.int ((i &&& k : Nat) : Int) = V.int ((k : Nat) : Int)) = decide (i &&& k = k) := decide_eq_decide.mpr nat_ne
            rw [e]
            exact r H' hD aH
          · intro H3 a3 hD2
            refine ⟨D2, F.map fun k => decide (i &&& k = k), rfl, .inl (.inl (by rw [hD2, all_bl])), ?_⟩
            rw [any_id']
            walk_at "rd"
            have hf3 := a3.same _ _ hf2
            have a13 := (a1.trans a2).trans a3
            refine iteB (fun e2 => ?_) (fun e2 => ?_)
            · walk_at "rd"
              refine rd_app hf3 (by rw [nVl_ln, sizeLine_eq]; omega) ?_
              walk_at "rd"
              refine ⟨_, rfl, ?_, a13.mut nf⟩
              rw [upd_same, es]
              unfold leastStep
              rw [if_pos (by rw [e1]; exact e2)]
              unfold nVl
              rw [List.map_append]
              rfl
            · walk_at "rd"
              refine ⟨_, rfl, ?_, a13⟩
              rw [es]
              unfold leastStep
              rw [if_neg (by rw [e1, Bool.true_and, e2]; decide)]
              exact hf3
        · walk_at "rd"
          refine ⟨_, rfl, ?_, a1.trans a2⟩
          rw [es]
          unfold leastStep
          rw [if_neg (by rw [e1, Bool.false_and]; decide)]
          exact hf2
    · rintro σ' H1 ⟨y, rfl, hf, a1⟩
      rw [Int.toNat_natCast] at hf
      walk_at "rd"
      exact q f H1 nf hf a1
theorem anti_nz {T L : List Nat} (d : L.Nodup) (h : ∀ x, x ∈ L → Mn (Crs T) x) : 2 ≤ L.length → ∀ x ∈ L, x ≠ 0 := fun h2 x hx e => by
  subst e
  have z : ∀ y ∈ L, y < 1 := fun y hy => by
    have := (h y hy).2 0 (h 0 hx).1 (Nat.zero_and y)
    omega
  have := nodup_lt d z
  omega
/-! ### listed -/
def spListT : Sp := fun vs H Q _ => ∃ (M : List Addr) (l : Addr) (L : List Nat) (n : Nat), vs = [.ref l, .int (n : Nat)] ∧ (∀ b ∈ M, H b ≠ none) ∧ H l = some (.lst (nVl L)) ∧ n ≤ 12 ∧ L.length ≤ 100000 ∧ (∀ x ∈ L, x < 2 ^ n) ∧ (2 ≤ L.length → ∀ x ∈ L, x ≠ 0) ∧
  ∀ p zs H', H p = none → H' p = some (.lst zs) → IsDs M H' (setsD L) zs → Adv [] H H' → Q (.ref p) H'
theorem ok_listed (A : All K mg w) : FnOk P w K mg base CX0 2 A.listed.f A.listed.fd ["sets", "many"] spListT := by
  refine A.listed.F.ok sc_listed (fun vs H Q E h => ?_) (fun cdv Ar outer s H vs Q E hr h => ?_)
  · obtain ⟨M, l, L, n, rfl, _⟩ := h
    rfl
  · obtain ⟨M, l, L, n, rfl, al, hl, hn, hz, hL, h0, q⟩ := h
    refine ⟨_, (pss_one (ps_ret (pe_callB cr_sortT (by rfl) A.T.sorted (by decide +kernel) (pa_cons (pe_lc (own := [("bits", 2)]) (g := gName 2) rfl sc_listed.nd (pi_list (pv 0)) (blkOk_by (own := [("bits", 2)]) (N := ["sets", "many", "bits"]) (sc := defScope s_listed) (by decide +kernel)) (fun _ _ _ _ _ => pg_name (i := 2) sc_listed.nd rfl (Or.inl rfl)) (fun _ _ _ _ _ => pts_nil) (fun _ _ _ _ _ => (pe_call (ok_numbers_in A) (hr.mono (by omega)) rfl A.numbers_in.m A.numbers_in.F.kp A.numbers_in.b .nil pass0 (pa_cons (pv 2) (pa_cons (pv 1) pa_nil))))) pa_nil)))), ?_⟩
    walk_at "rd"
    refine ⟨_, rfl, l, rfl, ⟨_, SqL.of hl⟩, fun D nD => ?_⟩
    refine lc_relL (xs := nVl L) (fun i v H => ∃ (t : Addr) (x : Nat), L[i]? = some x ∧ v = .ref t ∧ t ∉ D :: M ∧ H t = some (.tup (nVl (bitsL n x)))) nD hl (by rw [nVl_ln]; omega) ?_ ?_ ?_
    · rintro i v H1 H2 ⟨t, x, h1, h2, h3, h4⟩ a
      exact ⟨t, x, h1, h2, h3, a _ _ (fun z => h3 (by rw [List.mem_singleton.mp z]; simp)) h4⟩
    · intro i v H' acc R hv aH hD k
      obtain ⟨x, hx, rfl⟩ := nVl_at hv
      refine ⟨rfl, ?_⟩
      walk_at "rd"
      refine ⟨x, n, rfl, by omega, fun t H4 nt ht a4 => ?_⟩
      refine k _ _ (a4.same _ _ hD) a4 ⟨t, x, hx, rfl, fun z => ?_, ht⟩
      rcases List.mem_cons.mp z with z | z
      · rw [z, hD] at nt; cases nt
      · exact alloc_adv al aH (by simp) t z nt
    · intro H2 ys a2 hD hys hrel
      rw [nVl_ln] at hys
      refine go_sort (M := M) hn hL h0 hD hys (fun i y hy => ?_) (fun p zs H' np hp hz a => q p zs H' (a2.free (by simp) np) hp hz (a2.trans a))
      obtain ⟨t, x, h1, h2, h3, h4⟩ := hrel i y hy
      exact ⟨t, x, h1, h2, fun z => h3 (List.mem_cons_of_mem _ z), h4⟩
/-! ### crossing -/
def setsB (n : Int) : PyData → Bool
  | .list ds => ds.all (rowsB n)
  | _ => false
theorem sets_rows {n : Nat} : ∀ {ds : List PyData}, ds.all (rowsB (n : Int)) = true → ∃ rowss : List (List Nat), ds = rowss.map (fun r => .tuple (nD r)) ∧ ∀ r ∈ rowss, ∀ k ∈ r, k < n
  | [], _ => ⟨[], rfl, by simp⟩
  | d :: ds, h => by
    rw [List.all_cons, Bool.and_eq_true] at h
    obtain ⟨rows, rfl, h1, _⟩ := rows_nat h.1
    obtain ⟨rowss, rfl, h2⟩ := sets_rows h.2
    exact ⟨rows :: rowss, rfl, fun r hr => by
      rcases List.mem_cons.mp hr with rfl | hr
      · exact fun k hk => by have := h1 k hk; omega
      · exact h2 r hr⟩
structure CroP (cV : Addr) (v1 v2 : V) (H : Hp) (Q : VK) (E : XK) : Prop where
  ex : ∃ (M : List Addr) (d1 d2 : PyData), (∀ b ∈ M, H b ≠ none) ∧ Is [] H d1 v1 ∧ Is [] H d2 v2 ∧ (∀ ds, d2 = .list ds → ds.length ≤ 100000 ∧ ∀ d ∈ ds, tupZ d) ∧
    (isNum 0 12 d1 = false → ∀ dd H', Adv [] H H' → H dd = none → H' dd = some (.xd [("name", .str "many")]) → E (.ref cV) (some dd) H') ∧
    (∀ i, d1 = .int i → isNum 0 12 d1 = true → setsB i d2 = false → ∀ dd H', Adv [] H H' → H dd = none → H' dd = some (.xd [("name", .str "sets")]) → E (.ref cV) (some dd) H') ∧
    (∀ (n : Nat) (rowss : List (List Nat)), d1 = .int (n : Nat) → n ≤ 12 → d2 = .list (rowss.map fun r => .tuple (nD r)) → setsB (n : Int) d2 = true → (∀ r ∈ rowss, ∀ k ∈ r, k < n) → ∀ p zs H', H p = none → H' p = some (.lst zs) → IsDs M H' (setsD (leastF n (rowss.map bitsN))) zs → Adv [] H H' → Q (.ref p) H')
def spCross (cV : Addr) : Sp := fun vs H Q E => ∃ v1 v2, vs = [v1, v2] ∧ CroP cV v1 v2 H Q E
theorem not_lst {d : PyData} (h : ¬ ∃ ds, d = .list ds) : kitD d "list" = false := by
  cases d with
  | list ds => exact absurd ⟨ds, rfl⟩ h
  | _ => simp [kitD, tyN]
theorem ok_crossing (A : All K mg w) (Z : Exs K mg) (Z2 : Er_BadValue Z) : FnOk P w K mg base (L2N.CX P w) 6 A.crossing.f A.crossing.fd ["many", "sets"] (spCross (Z.cA "BadValue")) := by
  refine okXN A.crossing.F sc_crossing (fun vs H Q E h => ?_) (fun cdv Ar outer s H vs Q E hr h => ?_)
  · obtain ⟨v1, v2, rfl, _⟩ := h
    rfl
  · obtain ⟨v1, v2, rfl, X⟩ := h
    obtain ⟨M, d1, d2, al, i1, i2, hz, q1, q2, q3⟩ := X.ex
    obtain ⟨tM, mM⟩ := A.C.most
    refine ⟨_, (pss_cons (ps_expr (pe_callS (ok_check_between A Z Z2) (hr.mono (by omega)) rfl A.check_between.m A.check_between.F.kp A.check_between.b (L2N.passAt (L2N.takes_of rfl rfl rfl rfl)) (pa_cons (pv 0) (pa_cons pe_int (pa_cons (pe_glob (v := .int 12) rfl mM ⟨_, rfl⟩) (pa_cons pe_str pa_nil))))))
  (pss_cons (ps_if (PW.pt (pw_or (pt_not (pt_val (pe_callB call_isi (by rfl) A.T.isinstance (by decide +kernel) (pa_cons (pv 1) (pa_cons (pe_bltn (v := .ty "list") (by rfl) A.T.list (by decide +kernel) rfl) pa_nil))))) (pw_or1 (pt_not (pt_val (pe_callB (cr_all rfl) (by rfl) A.T.all (by decide +kernel) (pa_cons (pe_lc (own := [("numbers", 2)]) (g := gName 2) rfl sc_crossing.nd (pi_list (pv 1)) (blkOk_by (own := [("numbers", 2)]) (N := ["many", "sets", "numbers"]) (sc := defScope s_crossing) (by decide +kernel)) (fun _ _ _ _ _ => pg_name (i := 2) sc_crossing.nd rfl (Or.inl rfl)) (fun _ _ _ _ _ => pts_nil) (fun _ _ _ _ _ => (pe_call (ok_are_rows A) (hr.mono (by omega)) rfl A.are_rows.m A.are_rows.F.kp A.are_rows.b .nil pass0 (pa_cons (pv 2) (pa_cons (pv 0) pa_nil))))) pa_nil)))))))
    (pss_one (L2N.ps_raise rfl (L2N.takes_of rfl rfl rfl rfl) (pmk_initN Z2.O Z2.I Z2.T (ok_BadValue Z2) (hr.mono (by omega)) Z2.b .nil pass0 rfl (Z.mA "BadValue" (by decide)) (pa_cons pe_str pa_nil))))
    pss_nil)
  (pss_one (ps_ret (pe_call (ok_listed A) (hr.mono (by omega)) rfl A.listed.m A.listed.F.kp A.listed.b .nil pass0 (pa_cons (pe_call (ok_least_crossing A) (hr.mono (by omega)) rfl A.least_crossing.m A.least_crossing.F.kp A.least_crossing.b .nil pass0 (pa_cons (pv 0) (pa_cons (pe_lc (own := [("numbers", 2)]) (g := gName 2) rfl sc_crossing.nd (pi_list (pv 1)) (blkOk_by (own := [("numbers", 2)]) (N := ["many", "sets", "numbers"]) (sc := defScope s_crossing) (by decide +kernel)) (fun _ _ _ _ _ => pg_name (i := 2) sc_crossing.nd rfl (Or.inl rfl)) (fun _ _ _ _ _ => pts_nil) (fun _ _ _ _ _ => (pe_call (ok_bits_of A) (hr.mono (by omega)) rfl A.bits_of.m A.bits_of.F.kp A.bits_of.b .nil pass0 (pa_cons (pv 2) pa_nil)))) pa_nil))) (pa_cons (pv 0) pa_nil))))))), ?_⟩
    walk_at "rd"
    refine ⟨v1, d1, 0, 12, "many", rfl, i1, fun e1 => ?_, fun e1 dd H' a n h => ?_⟩
    rotate_left
    · exact q1 e1 dd H' a n h
    obtain ⟨n, rfl, n12⟩ : ∃ n : Nat, d1 = .int (n : Nat) ∧ n ≤ 12 := by
      obtain ⟨i, rfl, h1, h2⟩ := num_nat e1 (by decide)
      exact ⟨i, rfl, by omega⟩
    cases i1.intE
    walk_at "rd"
    refine ⟨_, _, _, _, _, rfl, .ty _, i2.ty A.W, k_list d2, _, rfl, ?_⟩
    by_cases hd : ∃ ds, d2 = .list ds
    · obtain ⟨ds, rfl⟩ := hd
      obtain ⟨l, vs, rfl, _, hl, hs⟩ := i2.lstE
      obtain ⟨z1, z2⟩ := hz ds rfl
      have hlen := hs.len
      refine iteN rfl ?_
      walk_at "rd"
      refine ⟨_, rfl, l, rfl, ⟨_, SqL.of hl⟩, fun D nD => ?_⟩
      refine lc_mapL (K := K) (a := l) (xs := vs) (fun i => V.bl (rowsB (n : Int) (ds.getD i .none))) nD (SqL.of hl) (by omega) ?_ ?_
      · intro i x H' acc R hx aH hD k
        obtain ⟨dx, hdx, hisx⟩ := hs.getV hx
        have ed : ds.getD i .none = dx := by rw [List.getD_eq_getElem?_getD, hdx]; rfl
        refine ⟨rfl, ?_⟩
        walk_at "rd"
        refine ⟨x, dx, n, rfl, hisx.adv aH, z2 dx (List.mem_of_getElem? hdx), fun H4 a4 => ?_⟩
        have k' := k H4 (a4.same _ _ hD) (aH.trans a4)
        rw [ed] at k'
        exact k'
      · intro H1 a1 hD
        refine ⟨D, ds.map (rowsB (n : Int)), rfl, .inl (.inl ?_), ?_⟩
        · rw [hD, hlen, range_map_list]
        rw [all_id']
        walk_at "rd"
        cases eB : ds.all (rowsB (n : Int)) with
        | false =>
          refine iteY rfl ?_
          refine ⟨Nat.le_of_ble_eq_true rfl, fun a na => ⟨a, .str "sets", rfl, upd_same, fun dx n1 n2 => ⟨rfl, dx, [("name", .str "sets")], upd_same, ?_, ?_, ?_⟩⟩⟩
          · rw [upd_ne n2, upd_same]
          · rw [upd_ne n2] at n1
            exact n1
          · have n1' : H1 dx = none := by rw [upd_ne n2] at n1; exact n1
            exact q2 n rfl e1 eB dx _ (a1.trans (adv_raise na n1')) (a1.free (by simp) n1') upd_same
        | true =>
          refine iteN rfl ?_
          obtain ⟨rowss, rfl, hr⟩ := sets_rows eB
          rw [List.length_map] at z1 hlen
          have hT : ∀ t ∈ rowss.map bitsN, t < 2 ^ n := fun t ht => by
            obtain ⟨r, hr2, rfl⟩ := List.mem_map.mp ht
            exact bitsN_lt (hr r hr2)
          walk_at "rd"
          have hl1 := a1.same _ _ hl
          refine ⟨_, rfl, l, rfl, ⟨_, SqL.of hl1⟩, fun D2 nD2 => ?_⟩
          refine lc_mapL (K := K) (a := l) (xs := vs) (fun i => V.int (bitsN (rowss.getD i []) : Nat)) nD2 (SqL.of hl1) (by omega) ?_ ?_
          · intro i x H' acc R hx aH hD k
            obtain ⟨dx, hdx, hisx⟩ := hs.getV hx
            rw [List.getElem?_map, Option.map_eq_some_iff] at hdx
            obtain ⟨r, hr1, rfl⟩ := hdx
            have ed : rowss.getD i [] = r := by rw [List.getD_eq_getElem?_getD, hr1]; rfl
            obtain ⟨t, us, rfl, ht, hu⟩ := hisx.tupE
            rw [nD_of hu] at ht
            refine ⟨rfl, ?_⟩
            walk_at "rd"
            refine ⟨t, r, rfl, (ht.adv a1).adv aH, fun k hk => by have := hr r (List.mem_of_getElem? hr1) k hk; omega, ?_⟩
            have k' := k H' hD aH
            rw [ed] at k'
            exact k'
          · intro H2 a2 hD2
            have eT : (List.range vs.length).map (fun i => V.int (bitsN (rowss.getD i []) : Nat)) = nVl (rowss.map bitsN) := by
              rw [hlen]
              unfold nVl
              rw [List.map_map]
              apply List.ext_getElem?
              intro i
              rw [List.getElem?_map, List.getElem?_map]
              by_cases hi : i < rowss.length
              · rw [List.getElem?_range hi, List.getElem?_eq_getElem hi]
                simp [hi]
              · rw [List.getElem?_eq_none (by simpa using hi), List.getElem?_eq_none (by omega)]
                rfl
            rw [eT] at hD2
            walk_at "rd"
            refine ⟨n, D2, _, rfl, n12, hD2, by rw [List.length_map]; omega, fun f H3 nf hf a3 => ?_⟩
            walk_at "rd"
            have a13 := (a1.trans a2).trans a3
            have mem : ∀ x, x ∈ leastF n (rowss.map bitsN) → x < 2 ^ n ∧ Mn (Crs (rowss.map bitsN)) x := fun x hx => (leastF_mem _ _ _).mp hx
            have nd := asc_nodup (leastF_asc (rowss.map bitsN) (2 ^ n))
            have l2 : (leastF n (rowss.map bitsN)).length ≤ 2 ^ n := leastF_len _ _
            have h2 : 2 ^ n ≤ 2 ^ 12 := Nat.pow_le_pow_right (by decide) n12
            refine ⟨M, f, _, n, rfl, alloc_adv al a13 (by simp), hf, n12, by omega, fun x hx => (mem x hx).1, anti_nz nd (fun x hx => (mem x hx).2), fun p zs H4 np hp hzs a4 => ?_⟩
            exact q3 n rowss rfl n12 rfl eB hr p zs H4 (a13.free (by simp) np) hp hzs (a13.trans a4)
    · refine iteY (by rw [not_lst hd]; rfl) ?_
      have eB : setsB (n : Int) d2 = false := by
        cases d2 with
        | list ds => exact absurd ⟨ds, rfl⟩ hd
        | _ => rfl
      refine ⟨Nat.le_of_ble_eq_true rfl, fun a na => ⟨a, .str "sets", rfl, upd_same, fun dx n1 n2 => ⟨rfl, dx, [("name", .str "sets")], upd_same, ?_, ?_, ?_⟩⟩⟩
      · rw [upd_ne n2, upd_same]
      · rw [upd_ne n2] at n1
        exact n1
      · have n1' : H dx = none := by rw [upd_ne n2] at n1; exact n1
        exact q2 n rfl e1 eB dx _ (adv_raise na n1') n1' upd_same
end
end K89

set_option Elab.async false
set_option linter.all false
set_option maxRecDepth 100000
set_option maxHeartbeats 400000
namespace K89
open PySem PySem.Spec PyProof.Rows L2 LL
open C8 (pss_cut)
local macro_rules | `(tactic| walk_at "ne") => `(tactic| first | assumption | (apply Ne.symm; assumption) | exact ne_of_none (by walk_at "hp") (by assumption) | exact (ne_of_none (by walk_at "hp") (by assumption)).symm)
local macro_rules | `(tactic| walk_at "nm") => `(tactic| first | assumption | exact notin0 | exact notin1 (by walk_at "ne") | exact notin2 (by walk_at "ne") (by walk_at "ne"))
local macro_rules | `(tactic| walk_at "hp") => `(tactic| first | assumption | exact upd_same | (refine Eq.trans (upd_ne ?ne) ?hh; (case hh => walk_at "hp"); (case ne => walk_at "ne")) | (refine Adv.get' (by assumption) ?hh ?nn; (case hh => walk_at "hp"); (case nn => walk_at "nm")))
local macro_rules | `(tactic| walk_at "tp") => `(tactic| first | assumption | exact Tp.adv (by walk_at "tp") (by assumption) | exact Tp.adv (by walk_at "tp") (Adv.nil (by assumption)))
local macro_rules | `(tactic| walk_at "sq") => `(tactic| first | assumption | exact Tp.sq (by assumption) (by walk_at "tp") | exact SqT.of (by walk_at "hp"))
local macro_rules | `(tactic| walk_at "at") => `(tactic| first | exact atI_nat (j := 0) rfl | exact atI_nat (j := 1) rfl | exact atI_nat (j := 2) rfl | exact atI_nat (j := 3) rfl | exact atI_nat (by assumption) | (rw [Int.zero_add]; exact atI_nat (by assumption)))
local macro_rules | `(tactic| walk_at "bb") => `(tactic| first | assumption | decide | exact rfl)
local macro_rules | `(tactic| walk_at "ci") => `(tactic| first | omega | (dsimp only; omega) | (unfold CDiv; omega) | (unfold CMul; omega))
local macro_rules | `(tactic| walk_at "rd1") => `(tactic| first
  | with_reducible refine rd_c ?_
  | ((with_reducible refine' rd_var ?rh ?_); (case rh => exact rfl))
  | with_reducible refine rd_op ?_
  | with_reducible refine rd_seq ?_
  | with_reducible refine rd_asg ?_
  | with_reducible refine rd_gname ?_
  | with_reducible refine rd_ifS ?_
  | with_reducible refine rd_test ?_
  | with_reducible refine rd_tB ?_
  | with_reducible refine rd_blP ?_
  | ((with_reducible refine' iteY ?rh ?_); (case rh => walk_at "bb"))
  | ((with_reducible refine' iteN ?rh ?_); (case rh => walk_at "bb"))
  | with_reducible refine rd_ret ?_
  | with_reducible refine rd_nx ?_
  | ((with_reducible refine' rd_eq ?rh ?_); (case rh => exact rfl))
  | ((with_reducible refine' rd_ne ?rh ?_); (case rh => exact rfl))
  | with_reducible refine rd_add ?_
  | with_reducible refine rd_sub ?_
  | with_reducible refine rd_i0 ?_
  | with_reducible refine rd_and ?_
  | with_reducible refine rd_or ?_
  | with_reducible refine rd_not ?_
  | with_reducible refine rd_andV ?_
  | with_reducible refine rd_orV ?_
  | with_reducible refine rd_notV ?_
  | with_reducible refine rd_ifE ?_
  | with_reducible refine rd_isN ?_
  | with_reducible refine rd_notN ?_
  | with_reducible refine rd_cons ?_
  | with_reducible refine rd_nil ?_
  | with_reducible refine rd_tup ?_
  | with_reducible refine rd_lst ?_
  | with_reducible refine rd_call ?_
  | with_reducible refine rd_cb ?_
  | with_reducible refine rd_meth ?_
  | with_reducible refine rd_callS ?_
  | with_reducible refine rd_make ?_
  | with_reducible refine rd_rfl ?_
  | with_reducible refine rd_fld ?_
  | with_reducible refine rd_drop ?_
  | with_reducible refine rd_gsub ?_
  | with_reducible refine rd_gcons ?_
  | with_reducible refine rd_gnil ?_
  | with_reducible refine rd_par ?_
  | with_reducible refine rd_two ?_
  | with_reducible refine rd_par3 ?_
  | with_reducible refine rd_three ?_
  | with_reducible refine rd_int1 ?_
  | ((with_reducible refine' rd_i ?rh ?_); (case rh => walk_at "ci"))
  | with_reducible refine rd_part ?_
  | with_reducible refine rd_nopart ?_
  | with_reducible refine rd_int ?_
  | with_reducible refine rd_sl ?_
  | with_reducible refine rd_bm ?_
  | with_reducible refine rd_bm0 ?_
  | with_reducible refine rd_dgetT ?_
  | with_reducible refine rd_din ?_
  | with_reducible refine rd_dnin ?_
  | with_reducible refine rd_un ?_
  | ((with_reducible refine' rd_ixL ?rh ?re ?_); (case rh => walk_at "hp"); (case re => walk_at "at"))
  | ((with_reducible refine' rd_ixT ?rh ?re ?_); (case rh => walk_at "sq"); (case re => walk_at "at"))
  | ((with_reducible refine' rd_lenT ?rh ?_); (case rh => walk_at "sq"))
  | ((with_reducible refine' rd_tyL ?rh ?_); (case rh => walk_at "hp"))
  | ((with_reducible refine' rd_len ?rh ?_); (case rh => walk_at "hp"))
  | with_reducible refine rd_u ?_
  | ((with_reducible refine' rd_slL ?rh ?_); (case rh => walk_at "hp"))
  | with_reducible refine rd_for ?_
  | with_reducible refine rd_rng1 ?_
  | with_reducible refine rd_rng2 ?_
  | with_reducible refine rd_ints1 ?_
  | with_reducible refine rd_ints2 ?_
  | with_reducible refine rd_retN ?_)
local macro_rules | `(tactic| walk_at "rd") => `(tactic| repeat walk_at "rd1")
section
variable [KW]
variable {P : Program} {w : World} {K : PySem.W.Frag} {mg : Str → Option Value} {base : Heap}
theorem nVl_len (rows : List Nat) : (nVl rows).length = rows.length := nVl_ln rows
theorem nVl_get {rows : List Nat} {i : Nat} {x : V} (h : (nVl rows)[i]? = some x) : ∃ k : Nat, rows[i]? = some k ∧ x = .int (k : Nat) := nVl_at h
/-! ### _law_some -/
structure SomeP (vs : List V) (H : Hp) (Q : VK) : Prop where
  ex : ∃ (M : List Addr) (s l : Addr) (rows : List Nat) (n : Int), vs = [.ref s, .ref l, .int n] ∧ StrAt M H s ∧ H l = some (.lst (nVl rows)) ∧ rows.length ≤ 1000000 ∧
    ∀ D rows' H', H D = none → H' D = some (.lst (nVl rows')) → (rows').Sublist rows → StrAt M H' s → Adv [s] H H' → Q (.ref D) H'
def spSome : Sp := fun vs H Q _ => SomeP vs H Q
theorem ok_law_some (A : All K mg w) : FnOk P w K mg base CX0 2 A.law_some.f A.law_some.fd ["stream", "rows", "share"] spSome := by
  refine A.law_some.F.ok sc_law_some (fun vs H Q E h => ?_) (fun cdv Ar outer s H vs Q E hr h => ?_)
  · obtain ⟨M, st, l, rows, n, rfl, _⟩ := h.ex
    rfl
  · obtain ⟨M, st, l, rows, n, rfl, hst, hl, hz, q⟩ := h.ex
    refine ⟨_, (pss_one (ps_ret (pe_lc (own := [("row", 3)]) (g := gName 3) rfl sc_law_some.nd (pi_list (pv 1)) (blkOk_by (own := [("row", 3)]) (N := ["stream", "rows", "share", "row"]) (sc := defScope s_law_some) (by decide +kernel)) (fun _ _ _ _ _ => pg_name (i := 3) sc_law_some.nd rfl (Or.inl rfl)) (fun _ _ _ _ _ => pts_one (pt_cmpR op_lt (pe_call (ok_law_next A) (hr.mono (by omega)) rfl A.law_next.m A.law_next.F.kp A.law_next.b .nil pass0 (pa_cons (pv 0) (pa_cons pe_int pa_nil))) (pv 2) (nomark _))) (fun _ _ _ _ _ => (pv 3))))), ?_⟩
    have sl : l ≠ st := fun z => by
      obtain ⟨li, ns, c, k, h1, _⟩ := hst
      rw [z, h1] at hl
      injection hl with hl
      injection hl with hl
      unfold nVl at hl
      cases rows with
      | nil => cases hl
      | cons r rows => rw [List.map_cons] at hl; injection hl with hl; cases hl
    walk_at "rd"
    refine ⟨_, rfl, l, rfl, ⟨_, SqL.of hl⟩, fun D nD => ?_⟩
    have Ds : st ≠ D := fun z => hst.here (by rw [z]; exact nD)
    refine lc_list (K := K) (a := l) (xs := nVl rows) (fun i H' => ∃ rows', H' D = some (.lst (nVl rows')) ∧ (rows').Sublist (rows.take i) ∧ StrAt (D :: M) H' st ∧ Adv [st] H H' ∧ H' l = some (.lst (nVl rows)))
      ⟨[], upd_same, by simp, (hst.fresh nD).same (Adv.new nD), Adv.nil (Adv.new nD), (Adv.new (M := []) nD).same _ _ hl⟩ (fun i H' _ p => ?_) (fun i x H' hx p => ?_) (fun H' p => ?_)
    · obtain ⟨r', _, _, _, _, h⟩ := p
      exact SqL.of h
    · obtain ⟨r', hD, hs, hst', a', hl'⟩ := p
      obtain ⟨k, hk, rfl⟩ := nVl_get hx
      have et : rows.take (i + 1) = rows.take i ++ [k] := by rw [List.take_succ, hk]; rfl
      have lD : l ≠ D := ne_of_none hl nD
      refine ⟨rfl, _, rfl, st, 8, D :: M, rfl, hst', by decide, by decide, fun t H2 t0 t1 hs2 a2 => ?_⟩
      refine ⟨_, rfl, t, n, rfl, rfl, _, rfl, ?_⟩
      have hD2 := a2 _ _ (notin1 Ds.symm) hD
      have hl2 := a2 _ _ (notin1 sl) hl'
      have len1 := hs.length_le
      rw [List.length_take] at len1
      refine iteB (fun e => ?_) (fun e => ?_)
      · refine ⟨_, rfl, _, hD2, by rw [nVl_len, sizeLine_eq]; omega, r' ++ [k], ?_, ?_, hs2.adv (N := [D]) (Adv.set (by simp)) (notin1 Ds) (by simp), (a'.trans a2).mut nD, by rw [upd_ne lD]; exact hl2⟩
        · rw [upd_same]
          unfold nVl
          rw [List.map_append]
          rfl
        · rw [et]
          exact hs.append (List.Sublist.refl _)
      · exact ⟨r', hD2, by rw [et]; exact hs.trans (List.sublist_append_left _ _), hs2, a'.trans a2, hl2⟩
    · obtain ⟨r', hD, hs, hst', a', hl'⟩ := p
      have e : rows.take (nVl rows).length = rows := by rw [nVl_len, List.take_length]
      rw [e] at hs
      exact q D r' H' nD hD hs (hst'.less (by simp +contextual)) a'
/-! ### _law_least -/
/-- sorted(set(x)) -/
theorem srt_l {H : Hp} {Q : VK} {c : Addr} (rows : List Nat) (hc : SqL K H c (nVl rows)) (hz : rows.length ≤ 4000) (q : ∀ p H', H p = none → H' p = some (.lst (nVl (srtN rows))) → Adv [] H H' → Q (.ref p) H') :
    rSetL K w [.ref c] H fun y H1 => rSortS w [y] H1 Q := by
  have eV : nVl rows = (rows.map fun r => ((r : Nat) : Int)).map V.int := by unfold nVl; rw [List.map_map]; rfl
  rw [eV] at hc
  refine ⟨c, _, rfl, .inl hc, by rw [List.length_map]; exact hz, fun p1 n1 _ np1 => ?_⟩
  refine ⟨p1, _, n1, rfl, upd_same, fun z1 p2 hz1 hm1 _ np2 => ?_⟩
  have ez1 : z1 = srtU (rows.map fun r => ((r : Nat) : Int)) := srtU_of hz1 hm1
  subst ez1
  rw [nV_srt]
  have a1 := Adv.new (M := []) (o := SetO w p1 (fun j => decide (j ∈ rows.map fun r => ((r : Nat) : Int))) n1) np1
  exact q p2 _ (a1.free (by simp) np2) upd_same (a1.newT np2)
theorem rd_srtl {te : TE} {σ : L2.St} {H : Hp} {Q : VK} (q : te σ H fun x H1 => rSetL K w [x] H1 fun y H2 => rSortS w [y] H2 Q) : tCB (rSortS w) (tCons (tCB (rSetL K w) (tCons te tNil)) tNil) σ H Q := q
local macro_rules | `(tactic| walk_at "rd1") => `(tactic| with_reducible refine rd_srtl ?_)
def spLawLeast : Sp := fun vs H Q _ => ∃ (l : Addr) (T : List Nat), vs = [.ref l] ∧ H l = some (.lst (nVl T)) ∧ T.length ≤ 4000 ∧ ∀ D H', H D = none → H' D = some (.lst (nVl (leastN T))) → Adv [] H H' → Q (.ref D) H'
theorem ok_law_least (A : All K mg w) : FnOk P w K mg base CX0 1 A.law_least.f A.law_least.fd ["sets"] spLawLeast := by
  refine A.law_least.F.ok sc_law_least (fun vs H Q E h => ?_) (fun cdv Ar outer s H vs Q E hr h => ?_)
  · obtain ⟨l, T, rfl, _⟩ := h
    rfl
  · obtain ⟨l, T, rfl, hl, hz, q⟩ := h
    refine ⟨_, (pss_cons (ps_set (i := 1) sc_law_least.nd rfl (Or.inr rfl) (pe_callB (cr_sortS rfl) (by rfl) A.T.sorted (by decide +kernel) (pa_cons (pe_callTy (cr_setL rfl) (by rfl) A.T.set (by decide +kernel) (pa_cons (pv 0) pa_nil)) pa_nil)))
  (pss_one (ps_ret (pe_lc (own := [("one", 3)]) (g := gName 3) rfl sc_law_least.nd (pi_list (pv 1)) (blkOk_by (own := [("one", 3)]) (N := ["sets", "known", "other", "one"]) (sc := defScope s_law_least) (by decide +kernel)) (fun _ _ _ _ _ => pg_name (i := 3) sc_law_least.nd rfl (Or.inr rfl)) (fun _ _ _ _ _ => pts_one (pt_cmpR op_eq (pe_callB (call_lenK K rfl) (by rfl) A.T.len PySem.boot_len (pa_cons (pe_lc (own := [("other", 2)]) (g := gName 2) rfl sc_law_least.nd (pi_listK K rfl (pv 1)) (blkOk_by (own := [("other", 2)]) (N := ["sets", "known", "other", "one"]) (sc := relS _ (defScope s_law_least)) (by decide +kernel)) (fun _ _ _ _ _ => pg_name (i := 2) sc_law_least.nd rfl (Or.inl rfl)) (fun _ _ _ _ _ => pts_one (PW.pt (pw_and (pt_cmpR op_eq (pe_op op_and (pv 2) (pv 3)) (pv 2) (nomark _)) (pw_and1 (pt_cmpR op_ne (pv 2) (pv 3) (nomark _)))))) (fun _ _ _ _ _ => (pv 2))) pa_nil)) pe_int (nomark _))) (fun _ _ _ _ _ => (pv 3)))))), ?_⟩
    walk_at "rd"
    refine srt_l T (SqL.of hl) hz (fun p H1 np hp a1 => ?_)
    walk_at "rd"
    have hsl := srtN_len T
    refine ⟨_, rfl, p, rfl, ⟨_, SqL.of hp⟩, fun D nD => ?_⟩
    refine lc_filtL (T := srtN T) (fun k => V.int (k : Nat)) (fun one => ((srtN T).filter fun other => decide (other &&& one = other) && decide (other ≠ one)).length == 0) nD hp (by omega) ?_ ?_
    · intro one H' acc R R0 hk aH hD r r0
      refine ⟨rfl, ?_⟩
      have hp' := aH.same _ _ hp
      walk_at "rd"
      refine ⟨_, rfl, p, rfl, ⟨_, SqL.of hp'⟩, fun D2 nD2 => ?_⟩
      refine lc_filtL (T := srtN T) (fun k => V.int (k : Nat)) (fun other => decide (other &&& one = other) && decide (other ≠ one)) nD2 hp' (by omega) ?_ ?_
      · intro other H2 acc2 R2 R02 hk2 aH2 hD2 s s0
        refine ⟨rfl, ?_⟩
        walk_at "rd"
        rw [band]
        have e1 : decide (V.int ((other &&& one : Nat) : Int) = V.int ((other : Nat) : Int)) = decide (other &&& one = other) := decide_eq_decide.mpr nat_ne
        have e2 : (!decide (V.int ((other : Nat) : Int) = V.int ((one : Nat) : Int))) = decide (other ≠ one) := by
          by_cases c : other = one
          · subst c; simp
          · rw [decide_eq_true c, decide_eq_false (fun z => c (nat_ne.mp z))]; rfl
        rw [e1]
        refine iteB (fun c1 => ?_) (fun c1 => ?_)
        · walk_at "rd"
          rw [e2]
          refine iteB (fun c2 => ?_) (fun c2 => ?_)
          · walk_at "rd"
            exact s (by rw [c1, c2]; rfl) H2 hD2 aH2
          · exact s0 (by rw [c1, c2]; rfl) H2 hD2 aH2
        · exact s0 (by rw [c1]; rfl) H2 hD2 aH2
      · intro H2 aH2 hD2
        have hDp := aH2.same _ _ hD
        walk_at "rd"
        have e3 : decide (V.int (((((srtN T).filter fun other => decide (other &&& one = other) && decide (other ≠ one)).map fun k => V.int ((k : Nat) : Int)).length : Nat) : Int) = V.int 0) = (((srtN T).filter fun other => decide (other &&& one = other) && decide (other ≠ one)).length == 0) := by
          rw [List.length_map]
          generalize ((srtN T).filter fun other => decide (other &&& one = other) && decide (other ≠ one)).length = m
          cases m with
          | zero => rfl
          | succ m => exact decide_eq_false fun z => by have := V.int.inj z; omega
        rw [e3]
        refine iteB (fun c => ?_) (fun c => ?_)
        · exact ⟨_, rfl, r c H2 hDp (aH.trans aH2)⟩
        · exact r0 c H2 hDp (aH.trans aH2)
    · intro H2 a2 hD
      exact q D H2 (a1.free (by simp) nD) hD (a1.trans a2)
end
end K89

set_option Elab.async false
set_option linter.all false
set_option maxRecDepth 100000
set_option maxHeartbeats 400000
namespace K89
open PySem PySem.Spec PyProof.Rows L2 LL
open C8 (pss_cut)
local macro_rules | `(tactic| walk_at "ne") => `(tactic| first | assumption | (apply Ne.symm; assumption) | exact ne_of_none (by walk_at "hp") (by assumption) | exact (ne_of_none (by walk_at "hp") (by assumption)).symm)
local macro_rules | `(tactic| walk_at "nm") => `(tactic| first | assumption | exact notin0 | exact notin1 (by walk_at "ne") | exact notin2 (by walk_at "ne") (by walk_at "ne"))
local macro_rules | `(tactic| walk_at "hp") => `(tactic| first | assumption | exact upd_same | (refine Eq.trans (upd_ne ?ne) ?hh; (case hh => walk_at "hp"); (case ne => walk_at "ne")) | (refine Adv.get' (by assumption) ?hh ?nn; (case hh => walk_at "hp"); (case nn => walk_at "nm")))
local macro_rules | `(tactic| walk_at "tp") => `(tactic| first | assumption | exact Tp.adv (by walk_at "tp") (by assumption) | exact Tp.adv (by walk_at "tp") (Adv.nil (by assumption)))
local macro_rules | `(tactic| walk_at "sq") => `(tactic| first | assumption | exact Tp.sq (by assumption) (by walk_at "tp") | exact SqT.of (by walk_at "hp"))
local macro_rules | `(tactic| walk_at "at") => `(tactic| first | exact atI_nat (j := 0) rfl | exact atI_nat (j := 1) rfl | exact atI_nat (j := 2) rfl | exact atI_nat (j := 3) rfl | exact atI_nat (by assumption) | (rw [Int.zero_add]; exact atI_nat (by assumption)))
local macro_rules | `(tactic| walk_at "bb") => `(tactic| first | assumption | decide | exact rfl)
local macro_rules | `(tactic| walk_at "ci") => `(tactic| first | omega | (dsimp only; omega) | (unfold CDiv; omega) | (unfold CMul; omega))
local macro_rules | `(tactic| walk_at "rd1") => `(tactic| first
  | with_reducible refine rd_c ?_
  | ((with_reducible refine' rd_var ?rh ?_); (case rh => exact rfl))
  | with_reducible refine rd_op ?_
  | with_reducible refine rd_seq ?_
  | with_reducible refine rd_asg ?_
  | with_reducible refine rd_gname ?_
  | with_reducible refine rd_ifS ?_
  | with_reducible refine rd_test ?_
  | with_reducible refine rd_tB ?_
  | with_reducible refine rd_blP ?_
  | ((with_reducible refine' iteY ?rh ?_); (case rh => walk_at "bb"))
  | ((with_reducible refine' iteN ?rh ?_); (case rh => walk_at "bb"))
  | with_reducible refine rd_ret ?_
  | with_reducible refine rd_nx ?_
  | ((with_reducible refine' rd_eq ?rh ?_); (case rh => exact rfl))
  | ((with_reducible refine' rd_ne ?rh ?_); (case rh => exact rfl))
  | with_reducible refine rd_add ?_
  | with_reducible refine rd_sub ?_
  | with_reducible refine rd_i0 ?_
  | with_reducible refine rd_and ?_
  | with_reducible refine rd_or ?_
  | with_reducible refine rd_not ?_
  | with_reducible refine rd_andV ?_
  | with_reducible refine rd_orV ?_
  | with_reducible refine rd_notV ?_
  | with_reducible refine rd_ifE ?_
  | with_reducible refine rd_isN ?_
  | with_reducible refine rd_notN ?_
  | with_reducible refine rd_cons ?_
  | with_reducible refine rd_nil ?_
  | with_reducible refine rd_tup ?_
  | with_reducible refine rd_lst ?_
  | with_reducible refine rd_call ?_
  | with_reducible refine rd_cb ?_
  | with_reducible refine rd_meth ?_
  | with_reducible refine rd_callS ?_
  | with_reducible refine rd_make ?_
  | with_reducible refine rd_rfl ?_
  | with_reducible refine rd_fld ?_
  | with_reducible refine rd_drop ?_
  | with_reducible refine rd_gsub ?_
  | with_reducible refine rd_gcons ?_
  | with_reducible refine rd_gnil ?_
  | with_reducible refine rd_par ?_
  | with_reducible refine rd_two ?_
  | with_reducible refine rd_par3 ?_
  | with_reducible refine rd_three ?_
  | with_reducible refine rd_int1 ?_
  | ((with_reducible refine' rd_i ?rh ?_); (case rh => walk_at "ci"))
  | with_reducible refine rd_part ?_
  | with_reducible refine rd_nopart ?_
  | with_reducible refine rd_int ?_
  | with_reducible refine rd_sl ?_
  | with_reducible refine rd_bm ?_
  | with_reducible refine rd_bm0 ?_
  | with_reducible refine rd_dgetT ?_
  | with_reducible refine rd_din ?_
  | with_reducible refine rd_dnin ?_
  | with_reducible refine rd_un ?_
  | ((with_reducible refine' rd_ixL ?rh ?re ?_); (case rh => walk_at "hp"); (case re => walk_at "at"))
  | ((with_reducible refine' rd_ixT ?rh ?re ?_); (case rh => walk_at "sq"); (case re => walk_at "at"))
  | ((with_reducible refine' rd_lenT ?rh ?_); (case rh => walk_at "sq"))
  | ((with_reducible refine' rd_tyL ?rh ?_); (case rh => walk_at "hp"))
  | ((with_reducible refine' rd_len ?rh ?_); (case rh => walk_at "hp"))
  | with_reducible refine rd_u ?_
  | ((with_reducible refine' rd_slL ?rh ?_); (case rh => walk_at "hp"))
  | with_reducible refine rd_for ?_
  | with_reducible refine rd_rng1 ?_
  | with_reducible refine rd_rng2 ?_
  | with_reducible refine rd_ints1 ?_
  | with_reducible refine rd_ints2 ?_
  | with_reducible refine rd_retN ?_)
local macro_rules | `(tactic| walk_at "rd") => `(tactic| repeat walk_at "rd1")
section
variable [KW]
variable {P : Program} {w : World} {K : PySem.W.Frag} {mg : Str → Option Value} {base : Heap}
/-! ### _law_crossing -/
theorem newF_take {n : Nat} {F : List Nat} {t j one : Nat} (h : F[j]? = some one) : newF n (F.take (j + 1)) t = newF n (F.take j) t ++ (if one &&& t ≠ 0 then [one] else (bitsL n t).map fun k => one ||| 2 ^ k) := by
  unfold newF
  rw [take_snc h, List.flatMap_append, List.flatMap_cons, List.flatMap_nil, List.append_nil]
theorem newF_pre {n : Nat} {F : List Nat} {t : Nat} (j : Nat) : (newF n (F.take j) t).length ≤ (newF n F t).length := by
  have : newF n F t = newF n (F.take j) t ++ newF n (F.drop j) t := by
    unfold newF
    rw [← List.flatMap_append, List.take_append_drop]
  rw [this, List.length_append]
  omega
def spLawCross : Sp := fun vs H Q _ => ∃ (l : Addr) (T : List Nat), vs = [.ref l] ∧ H l = some (.lst (nVl T)) ∧ T.length ≤ 100000 ∧ (∀ t ∈ T, t < 2 ^ 12) ∧ ∀ D H', H D = none → H' D = some (.lst (nVl (crossF 12 T))) → Adv [] H H' → Q (.ref D) H'
theorem ok_law_crossing (A : All K mg w) : FnOk P w K mg base CX0 2 A.law_crossing.f A.law_crossing.fd ["sets"] spLawCross := by
  refine A.law_crossing.F.ok sc_law_crossing (fun vs H Q E h => ?_) (fun cdv Ar outer s H vs Q E hr h => ?_)
  · obtain ⟨l, T, rfl, _⟩ := h
    rfl
  · obtain ⟨l, T, rfl, hl, hz, hT, q⟩ := h
    refine ⟨_, (pss_cons (ps_set (i := 1) sc_law_crossing.nd rfl (Or.inl rfl) (pe_lst (pa_cons pe_int pa_nil)))
  (pss_cons (ps_for PassesOwn.never rfl (pi_list (pv 0)) (pg_name (i := 2) sc_law_crossing.nd rfl (Or.inl rfl))
    (pss_cons (ps_set (i := 3) sc_law_crossing.nd rfl (Or.inl rfl) (pe_lst pa_nil))
  (pss_cons (ps_for PassesOwn.never rfl (pi_list (pv 1)) (pg_name (i := 4) sc_law_crossing.nd rfl (Or.inr rfl))
    (pss_one (ps_if (pt_cmpR op_ne (pe_op op_and (pv 4) (pv 2)) pe_int (nomark _))
    (pss_one (ps_expr (pe_bm PySem.F.plainAttrs_list PySem.F.slot_list_append PySem.F.type_list_append mt_append (pv 3) (pa_cons (pv 4) pa_nil))))
    (pss_one (ps_expr (pe_bm PySem.F.plainAttrs_list PySem.F.slot_list_extend PySem.F.type_list_extend mt_extend (pv 3) (pa_cons (pe_lc (own := [("k", 5)]) (g := gName 5) rfl sc_law_crossing.nd (pi_list (pe_call (ok_law_listed A) (hr.mono (by omega)) rfl A.law_listed.m A.law_listed.F.kp A.law_listed.b .nil pass0 (pa_cons (pv 2) (pa_cons pe_int pa_nil)))) (blkOk_by (own := [("k", 5)]) (N := ["sets", "found", "told", "new", "one", "k"]) (sc := defScope s_law_crossing) (by decide +kernel)) (fun _ _ _ _ _ => pg_name (i := 5) sc_law_crossing.nd rfl (Or.inl rfl)) (fun _ _ _ _ _ => pts_nil) (fun _ _ _ _ _ => (pe_op op_or (pv 4) (pe_op op_shl pe_int (pv 5))))) pa_nil)))))))
  (pss_one (ps_set (i := 1) sc_law_crossing.nd rfl (Or.inl rfl) (pe_call (ok_law_least A) (hr.mono (by omega)) rfl A.law_least.m A.law_least.F.kp A.law_least.b .nil pass0 (pa_cons (pv 3) pa_nil)))))))
  (pss_one (ps_ret (pv 1))))), ?_⟩
    walk_at "rd"
    refine ⟨by show 1 ≤ sizeLine; decide, fun f0 nf0 => ?_⟩
    have a0 : Adv [] H (upd H f0 (.lst [.int 0])) := Adv.new nf0
    walk_at "rd"
    refine ⟨_, rfl, l, rfl, ⟨_, SqL.of (a0.same _ _ hl)⟩, ?_⟩
    refine for_list (a := l) (xs := nVl T) (fun i σ' H' => ∃ (f : Addr) (y2 y3 y4 y5 : Option V), σ' = [some (.ref l), some (.ref f), y2, y3, y4, y5] ∧ H f = none ∧ H' f = some (.lst (nVl (crossF 12 (T.take i)))) ∧ Adv [] H H') ⟨f0, none, none, none, none, rfl, nf0, by rw [upd_same]; rfl, a0⟩ ?_ ?_ ?_
    · rintro i σ' H' hi ⟨f, y2, y3, y4, y5, rfl, nf, hf, a'⟩
      exact SqL.of (a'.same _ _ hl)
    · rintro i x σ' H1 hx ⟨f, y2, y3, y4, y5, rfl, nf, hf, a1⟩
      obtain ⟨t, ht, rfl⟩ := nVl_at hx
      have hTi : ∀ u ∈ T.take i, u < 2 ^ 12 := fun u hu => hT u (List.mem_of_mem_take hu)
      have ht12 : t < 2 ^ 12 := hT t (List.mem_of_getElem? ht)
      have hmem := crossF_mem (n := 12) (T.take i) hTi
      have hnd := asc_nodup (crossF_asc (n := 12) (T.take i))
      obtain ⟨z1, z2⟩ := new12_len (t := t) hnd hmem hTi
      have es : crossF 12 (T.take (i + 1)) = leastN (newF 12 (crossF 12 (T.take i)) t) := by rw [take_snc ht, crossF_snoc]
      generalize hF : crossF 12 (T.take i) = F at hf z1 z2 es
      walk_at "rd"
      refine ⟨Nat.zero_le _, fun nw nnw => ?_⟩
      have fn : f ≠ nw := ne_of_none hf nnw
      have b0 : Adv [] H1 (upd H1 nw (.lst [])) := Adv.new nnw
      walk_at "rd"
      refine ⟨_, rfl, f, rfl, ⟨_, SqL.of (b0.same _ _ hf)⟩, ?_⟩
      refine for_list (a := f) (xs := nVl F) (fun j σ' H' => ∃ (y4 y5 : Option V), σ' = [some (.ref l), some (.ref f), some (.int (t : Nat)), some (.ref nw), y4, y5] ∧ H' nw = some (.lst (nVl (newF 12 (F.take j) t))) ∧ Adv [] H1 H') ⟨_, _, rfl, upd_same, b0⟩ ?_ ?_ ?_
      · rintro j σ' H' hj ⟨y4, y5, rfl, hn, a'⟩
        exact SqL.of (a'.same _ _ hf)
      · rintro j x σ' H2 hx ⟨y4, y5, rfl, hn, a2⟩
        obtain ⟨one, ho, rfl⟩ := nVl_at hx
        have zj := newF_pre (n := 12) (F := F) (t := t) j
        have ej := newF_take (n := 12) (t := t) ho
        walk_at "rd"
        rw [band]
        by_cases c : one &&& t ≠ 0
        · have ec : (!decide (V.int ((one &&& t : Nat) : Int) = V.int 0)) = true := by
            rw [decide_eq_false (fun z => c (by have := V.int.inj z; omega))]; rfl
          rw [if_pos c] at ej
          refine iteY ec ?_
          walk_at "rd"
          refine rd_app hn (by rw [nVl_ln, sizeLine_eq]; omega) ?_
          walk_at "rd"
          refine ⟨_, _, rfl, ?_, a2.mut nnw⟩
          rw [upd_same, ej]
          unfold nVl
          rw [List.map_append]
          rfl
        · have c0 : one &&& t = 0 := by simpa using c
          have ec : (!decide (V.int ((one &&& t : Nat) : Int) = V.int 0)) = false := by rw [c0]; rfl
          rw [if_neg c] at ej
          refine iteN ec ?_
          walk_at "rd"
          unfold tLc iList
          walk_at "rd"
          refine ⟨t, 12, rfl, by decide, fun D1 H3 nD1 hD1 a3 => ?_⟩
          have bl := bitsL_len 12 t
          refine ⟨D1, rfl, ⟨_, SqL.of hD1⟩, fun D2 nD2 => ?_⟩
          refine lc_natL (T := bitsL 12 t) (fun k => V.int ((one ||| 2 ^ k : Nat) : Int)) nD2 hD1 (by omega) ?_ ?_
          · intro k H' acc R hk aH hD r
            have := (bitsL_mem.mp hk).1
            refine ⟨rfl, ?_⟩
            walk_at "rd"
            refine rd_shl1 (by omega) (rd_bor ?_)
            exact r H' hD aH
          · intro H4 a4 hD2
            have a34 := a3.trans a4
            have hn4 := a34.same _ _ hn
            have zl : ((bitsL 12 t).map fun k => V.int ((one ||| 2 ^ k : Nat) : Int)).length = (bitsL 12 t).length := List.length_map ..
            walk_at "rd"
            refine ⟨nw, D2, _, _, rfl, rfl, hn4, hD2, by rw [nVl_ln, zl, sizeLine_eq]; omega, ?_⟩
            walk_at "rd"
            refine ⟨_, _, rfl, ?_, (a2.trans a34).mut nnw⟩
            rw [upd_same, ej]
            unfold nVl
            rw [List.map_append, List.map_map]
            rfl
      · rintro σ' H2 ⟨y4, y5, rfl, hn, a2⟩
        rw [nVl_ln, List.take_length] at hn
        walk_at "rd"
        refine ⟨nw, _, rfl, hn, by omega, fun D H3 nD hD a3 => ?_⟩
        walk_at "rd"
        refine ⟨D, _, _, _, _, rfl, ((a1.trans a2).free (by simp) nD), ?_, (a1.trans a2).trans a3⟩
        rw [es]
        exact hD
    · rintro σ' H1 ⟨f, y2, y3, y4, y5, rfl, nf, hf, a1⟩
      rw [nVl_ln, List.take_length] at hf
      walk_at "rd"
      exact q f H1 nf hf a1
/-! ### _law_tuples -/
def spLawTup : Sp := fun vs H Q _ => ∃ (M : List Addr) (l : Addr) (L : List Nat), vs = [.ref l] ∧ (∀ b ∈ M, H b ≠ none) ∧ H l = some (.lst (nVl L)) ∧ L.length ≤ 100000 ∧ (∀ x ∈ L, x < 2 ^ 12) ∧ (2 ≤ L.length → ∀ x ∈ L, x ≠ 0) ∧
  ∀ p zs H', H p = none → H' p = some (.lst zs) → IsDs M H' (setsD L) zs → Adv [] H H' → Q (.ref p) H'
theorem ok_law_tuples (A : All K mg w) : FnOk P w K mg base CX0 2 A.law_tuples.f A.law_tuples.fd ["sets"] spLawTup := by
  refine A.law_tuples.F.ok sc_law_tuples (fun vs H Q E h => ?_) (fun cdv Ar outer s H vs Q E hr h => ?_)
  · obtain ⟨M, l, L, rfl, _⟩ := h
    rfl
  · obtain ⟨M, l, L, rfl, al, hl, hz, hL, h0, q⟩ := h
    refine ⟨_, (pss_one (ps_ret (pe_callB cr_sortT (by rfl) A.T.sorted (by decide +kernel) (pa_cons (pe_lc (own := [("bits", 1)]) (g := gName 1) rfl sc_law_tuples.nd (pi_list (pv 0)) (blkOk_by (own := [("bits", 1)]) (N := ["sets", "bits"]) (sc := defScope s_law_tuples) (by decide +kernel)) (fun _ _ _ _ _ => pg_name (i := 1) sc_law_tuples.nd rfl (Or.inl rfl)) (fun _ _ _ _ _ => pts_nil) (fun _ _ _ _ _ => (pe_callTy (call_tupleK K rfl) (by rfl) A.T.tuple (by decide +kernel) (pa_cons (pe_call (ok_law_listed A) (hr.mono (by omega)) rfl A.law_listed.m A.law_listed.F.kp A.law_listed.b .nil pass0 (pa_cons (pv 1) (pa_cons pe_int pa_nil))) pa_nil)))) pa_nil)))), ?_⟩
    walk_at "rd"
    refine ⟨_, rfl, l, rfl, ⟨_, SqL.of hl⟩, fun D nD => ?_⟩
    refine lc_relL (xs := nVl L) (fun i v H => ∃ (t : Addr) (x : Nat), L[i]? = some x ∧ v = .ref t ∧ t ∉ D :: M ∧ H t = some (.tup (nVl (bitsL 12 x)))) nD hl (by rw [nVl_ln]; omega) ?_ ?_ ?_
    · rintro i v H1 H2 ⟨t, x, h1, h2, h3, h4⟩ a
      exact ⟨t, x, h1, h2, h3, a _ _ (fun z => h3 (by rw [List.mem_singleton.mp z]; simp)) h4⟩
    · intro i v H' acc R hv aH hD k
      obtain ⟨x, hx, rfl⟩ := nVl_at hv
      refine ⟨rfl, ?_⟩
      walk_at "rd"
      refine ⟨x, 12, rfl, by omega, fun D1 H4 nD1 hD1 a4 => ?_⟩
      refine ⟨D1, _, rfl, .inl ⟨SqL.of hD1, fun t nt => ?_⟩⟩
      refine k _ _ ((a4.newT nt).same _ _ hD) (a4.newT nt) ⟨t, x, hx, rfl, fun z => ?_, upd_same⟩
      have nt' := a4.free (by simp) nt
      rcases List.mem_cons.mp z with z | z
      · rw [z, hD] at nt'; cases nt'
      · exact alloc_adv al aH (by simp) t z nt'
    · intro H2 ys a2 hD hys hrel
      rw [nVl_ln] at hys
      refine go_sort (M := M) (n := 12) (by decide) hL h0 hD hys (fun i y hy => ?_) (fun p zs H' np hp hz a => q p zs H' (a2.free (by simp) np) hp hz (a2.trans a))
      obtain ⟨t, x, h1, h2, h3, h4⟩ := hrel i y hy
      exact ⟨t, x, h1, h2, fun z => h3 (List.mem_cons_of_mem _ z), h4⟩
end
end K89

set_option Elab.async false
set_option linter.all false
set_option maxRecDepth 100000
set_option maxHeartbeats 400000
namespace K89
open PySem PySem.Spec PyProof.Rows L2 LL
open C8 (pss_cut)
local macro_rules | `(tactic| walk_at "ne") => `(tactic| first | assumption | (apply Ne.symm; assumption) | exact ne_of_none (by walk_at "hp") (by assumption) | exact (ne_of_none (by walk_at "hp") (by assumption)).symm)
local macro_rules | `(tactic| walk_at "nm") => `(tactic| first | assumption | exact notin0 | exact notin1 (by walk_at "ne") | exact notin2 (by walk_at "ne") (by walk_at "ne"))
local macro_rules | `(tactic| walk_at "hp") => `(tactic| first | assumption | exact upd_same | (refine Eq.trans (upd_ne ?ne) ?hh; (case hh => walk_at "hp"); (case ne => walk_at "ne")) | (refine Adv.get' (by assumption) ?hh ?nn; (case hh => walk_at "hp"); (case nn => walk_at "nm")))
local macro_rules | `(tactic| walk_at "tp") => `(tactic| first | assumption | exact Tp.adv (by walk_at "tp") (by assumption) | exact Tp.adv (by walk_at "tp") (Adv.nil (by assumption)))
local macro_rules | `(tactic| walk_at "sq") => `(tactic| first | assumption | exact Tp.sq (by assumption) (by walk_at "tp") | exact SqT.of (by walk_at "hp"))
local macro_rules | `(tactic| walk_at "at") => `(tactic| first | exact atI_nat (j := 0) rfl | exact atI_nat (j := 1) rfl | exact atI_nat (j := 2) rfl | exact atI_nat (j := 3) rfl | exact atI_nat (by assumption) | (rw [Int.zero_add]; exact atI_nat (by assumption)))
local macro_rules | `(tactic| walk_at "bb") => `(tactic| first | assumption | decide | exact rfl)
local macro_rules | `(tactic| walk_at "ci") => `(tactic| first | omega | (dsimp only; omega) | (unfold CDiv; omega) | (unfold CMul; omega))
local macro_rules | `(tactic| walk_at "rd1") => `(tactic| first
  | with_reducible refine rd_c ?_
  | ((with_reducible refine' rd_var ?rh ?_); (case rh => exact rfl))
  | with_reducible refine rd_op ?_
  | with_reducible refine rd_seq ?_
  | with_reducible refine rd_asg ?_
  | with_reducible refine rd_gname ?_
  | with_reducible refine rd_ifS ?_
  | with_reducible refine rd_test ?_
  | with_reducible refine rd_tB ?_
  | with_reducible refine rd_blP ?_
  | ((with_reducible refine' iteY ?rh ?_); (case rh => walk_at "bb"))
  | ((with_reducible refine' iteN ?rh ?_); (case rh => walk_at "bb"))
  | with_reducible refine rd_ret ?_
  | with_reducible refine rd_nx ?_
  | ((with_reducible refine' rd_eq ?rh ?_); (case rh => exact rfl))
  | ((with_reducible refine' rd_ne ?rh ?_); (case rh => exact rfl))
  | with_reducible refine rd_add ?_
  | with_reducible refine rd_sub ?_
  | with_reducible refine rd_i0 ?_
  | with_reducible refine rd_and ?_
  | with_reducible refine rd_or ?_
  | with_reducible refine rd_not ?_
  | with_reducible refine rd_andV ?_
  | with_reducible refine rd_orV ?_
  | with_reducible refine rd_notV ?_
  | with_reducible refine rd_ifE ?_
  | with_reducible refine rd_isN ?_
  | with_reducible refine rd_notN ?_
  | with_reducible refine rd_cons ?_
  | with_reducible refine rd_nil ?_
  | with_reducible refine rd_tup ?_
  | with_reducible refine rd_lst ?_
  | with_reducible refine rd_call ?_
  | with_reducible refine rd_cb ?_
  | with_reducible refine rd_meth ?_
  | with_reducible refine rd_callS ?_
  | with_reducible refine rd_make ?_
  | with_reducible refine rd_rfl ?_
  | with_reducible refine rd_fld ?_
  | with_reducible refine rd_drop ?_
  | with_reducible refine rd_gsub ?_
  | with_reducible refine rd_gcons ?_
  | with_reducible refine rd_gnil ?_
  | with_reducible refine rd_par ?_
  | with_reducible refine rd_two ?_
  | with_reducible refine rd_par3 ?_
  | with_reducible refine rd_three ?_
  | with_reducible refine rd_int1 ?_
  | ((with_reducible refine' rd_i ?rh ?_); (case rh => walk_at "ci"))
  | with_reducible refine rd_part ?_
  | with_reducible refine rd_nopart ?_
  | with_reducible refine rd_int ?_
  | with_reducible refine rd_sl ?_
  | with_reducible refine rd_bm ?_
  | with_reducible refine rd_bm0 ?_
  | with_reducible refine rd_dgetT ?_
  | with_reducible refine rd_din ?_
  | with_reducible refine rd_dnin ?_
  | with_reducible refine rd_un ?_
  | ((with_reducible refine' rd_ixL ?rh ?re ?_); (case rh => walk_at "hp"); (case re => walk_at "at"))
  | ((with_reducible refine' rd_ixT ?rh ?re ?_); (case rh => walk_at "sq"); (case re => walk_at "at"))
  | ((with_reducible refine' rd_lenT ?rh ?_); (case rh => walk_at "sq"))
  | ((with_reducible refine' rd_tyL ?rh ?_); (case rh => walk_at "hp"))
  | ((with_reducible refine' rd_len ?rh ?_); (case rh => walk_at "hp"))
  | with_reducible refine rd_u ?_
  | ((with_reducible refine' rd_slL ?rh ?_); (case rh => walk_at "hp"))
  | with_reducible refine rd_for ?_
  | with_reducible refine rd_rng1 ?_
  | with_reducible refine rd_rng2 ?_
  | with_reducible refine rd_ints1 ?_
  | with_reducible refine rd_ints2 ?_
  | with_reducible refine rd_retN ?_)
local macro_rules | `(tactic| walk_at "rd") => `(tactic| repeat walk_at "rd1")
section
variable [KW]
variable {P : Program} {w : World} {K : PySem.W.Frag} {mg : Str → Option Value} {base : Heap}
/-- ascending rows below n -/
def GoodR (n : Nat) (r : List Nat) : Prop := r.Sublist (List.range n)
theorem GoodR.lt {n : Nat} {r : List Nat} (h : GoodR n r) : ∀ k ∈ r, k < n := fun k hk => List.mem_range.mp (h.subset hk)
theorem GoodR.asc {n : Nat} {r : List Nat} (h : GoodR n r) : (r.map fun r => ((r : Nat) : Int)).Pairwise (· < ·) := by
  refine List.pairwise_map.mpr ((List.pairwise_lt_range (n := n)).sublist h |>.imp fun h => by omega)
theorem GoodR.len {n : Nat} {r : List Nat} (h : GoodR n r) : r.length ≤ n := by have := h.length_le; rwa [List.length_range] at this
/-- a tuple of ascending rows -/
def SetV (N : List Addr) (H : Hp) (n : Nat) (v : V) : Prop := ∃ (t : Addr) (r : List Nat), v = .ref t ∧ t ∉ N ∧ H t = some (.tup (nVl r)) ∧ GoodR n r
theorem SetV.adv {M N : List Addr} {H H' : Hp} {n : Nat} {v : V} (x : SetV N H n v) (a : Adv M H H') (h : ∀ b ∈ M, b ∈ N) : SetV N H' n v := by
  obtain ⟨t, r, h1, h2, h3, h4⟩ := x
  exact ⟨t, r, h1, h2, a _ _ (fun z => h2 (h _ z)) h3, h4⟩
theorem SetV.less {M N : List Addr} {H : Hp} {n : Nat} {v : V} (x : SetV N H n v) (h : ∀ b ∈ M, b ∈ N) : SetV M H n v := by
  obtain ⟨t, r, h1, h2, h3, h4⟩ := x
  exact ⟨t, r, h1, fun z => h2 (h _ z), h3, h4⟩
theorem rgV_nat (n : Nat) : rgV 0 ((n : Nat) : Int) = nVl (List.range n) := by
  unfold rgV nVl
  have : (((n : Nat) : Int) - 0).toNat = n := by omega
  rw [this]
  congr 1
  funext i
  rw [Int.zero_add]
/-! ### _law_sets -/
structure SetsP (vs : List V) (H : Hp) (Q : VK) : Prop where
  ex : ∃ (M : List Addr) (s : Addr) (n : Nat), vs = [.ref s, .int (n : Nat)] ∧ StrAt M H s ∧ s ∈ M ∧ (∀ b ∈ M, H b ≠ none) ∧ n ≤ 12 ∧
    ∀ S xs H', H S = none → H' S = some (.lst xs) → xs.length ≤ 30 → (∀ x ∈ xs, SetV (S :: M) H' n x) → StrAt M H' s → Adv [s] H H' → Q (.ref S) H'
def spSets : Sp := fun vs H Q _ => SetsP vs H Q
theorem ok_law_sets (A : All K mg w) : FnOk P w K mg base CX0 3 A.law_sets.f A.law_sets.fd ["stream", "many"] spSets := by
  refine A.law_sets.F.ok sc_law_sets (fun vs H Q E h => ?_) (fun cdv Ar outer s0 H vs Q E hr h => ?_)
  · obtain ⟨M, s, n, rfl, _⟩ := h.ex
    rfl
  · obtain ⟨M, s, n, rfl, hs, ms, al, hn, q⟩ := h.ex
    refine ⟨_, (pss_cut (ps_set (i := 2) sc_law_sets.nd rfl (Or.inl rfl) (pe_ifExp (PW.pt (pw_and (pt_cmpR op_lt (pv 1) pe_int (nomark _)) (pw_and1 (pt_cmpR op_eq (pe_call (ok_law_next A) (hr.mono (by omega)) rfl A.law_next.m A.law_next.F.kp A.law_next.b .nil pass0 (pa_cons (pv 0) (pa_cons pe_int pa_nil))) pe_int (nomark _))))) (pe_call (ok_law_from A) (hr.mono (by omega)) rfl A.law_from.m A.law_from.F.kp A.law_from.b .nil pass0 (pa_cons (pv 0) (pa_cons pe_int (pa_cons pe_int pa_nil)))) (pe_call (ok_law_next A) (hr.mono (by omega)) rfl A.law_next.m A.law_next.F.kp A.law_next.b .nil pass0 (pa_cons (pv 0) (pa_cons pe_int pa_nil)))))
  (pss_cons (ps_set (i := 3) sc_law_sets.nd rfl (Or.inl rfl) (pe_call (ok_law_from A) (hr.mono (by omega)) rfl A.law_from.m A.law_from.F.kp A.law_from.b .nil pass0 (pa_cons (pv 0) (pa_cons pe_int (pa_cons pe_int pa_nil)))))
  (pss_cons (ps_set (i := 4) sc_law_sets.nd rfl (Or.inl rfl) (pe_lst pa_nil))
  (pss_cons (ps_for PassesOwn.never rfl (pi_range1 rfl A.T.range (pa_cons (pv 2) pa_nil)) (pg_name (i := 5) sc_law_sets.nd rfl (Or.inl rfl))
    (pss_cons (ps_set (i := 6) sc_law_sets.nd rfl (Or.inl rfl) (pe_call (ok_law_next A) (hr.mono (by omega)) rfl A.law_next.m A.law_next.F.kp A.law_next.b .nil pass0 (pa_cons (pv 0) (pa_cons pe_int pa_nil))))
  (pss_cut (ps_if (PW.pt (pw_and (pt_cmpR op_eq (pv 6) pe_int (nomark _)) (pw_and1 (pt_cmpR op_gt (pe_callB call_len_seq (by rfl) A.T.len PySem.boot_len (pa_cons (pv 4) pa_nil)) pe_int (nomark _)))))
    (pss_one (ps_set (i := 7) sc_law_sets.nd rfl (Or.inl rfl) (pe_call (ok_law_pick A) (hr.mono (by omega)) rfl A.law_pick.m A.law_pick.F.kp A.law_pick.b .nil pass0 (pa_cons (pv 0) (pa_cons (pv 4) pa_nil)))))
    (pss_one (ps_if (PW.pt (pw_and (pt_cmpR op_eq (pv 6) pe_int (nomark _)) (pw_and1 (pt_cmpR op_gt (pe_callB call_len_seq (by rfl) A.T.len PySem.boot_len (pa_cons (pv 4) pa_nil)) pe_int (nomark _)))))
    (pss_one (ps_set (i := 7) sc_law_sets.nd rfl (Or.inl rfl) (pe_callTy call_tuple_of (by rfl) A.T.tuple (by decide +kernel) (pa_cons (pe_call (ok_law_some A) (hr.mono (by omega)) rfl A.law_some.m A.law_some.F.kp A.law_some.b .nil pass0 (pa_cons (pv 0) (pa_cons (pe_callTy call_list_of (by rfl) A.T.list (by decide +kernel) (pa_cons (pe_call (ok_law_pick A) (hr.mono (by omega)) rfl A.law_pick.m A.law_pick.F.kp A.law_pick.b .nil pass0 (pa_cons (pv 0) (pa_cons (pv 4) pa_nil))) pa_nil)) (pa_cons pe_int pa_nil)))) pa_nil))))
    (pss_one (ps_if (PW.pt (pw_and (pt_cmpR op_eq (pv 6) pe_int (nomark _)) (pw_and1 (pt_cmpR op_gt (pv 1) pe_int (nomark _)))))
    (pss_one (ps_set (i := 7) sc_law_sets.nd rfl (Or.inl rfl) (pe_tup (pa_cons (pe_call (ok_law_next A) (hr.mono (by omega)) rfl A.law_next.m A.law_next.F.kp A.law_next.b .nil pass0 (pa_cons (pv 0) (pa_cons (pv 1) pa_nil))) pa_nil))))
    (pss_one (ps_set (i := 7) sc_law_sets.nd rfl (Or.inl rfl) (pe_callTy call_tuple_of (by rfl) A.T.tuple (by decide +kernel) (pa_cons (pe_call (ok_law_some A) (hr.mono (by omega)) rfl A.law_some.m A.law_some.F.kp A.law_some.b .nil pass0 (pa_cons (pv 0) (pa_cons (pe_listRg rfl rfl A.T.list (prg_1 rfl A.T.range (pv 1))) (pa_cons (pv 3) pa_nil)))) pa_nil)))))))))
  (pss_one (ps_if (PW.pt (pw_or (pt_cmpR op_gt (pe_callB call_len_seq (by rfl) A.T.len PySem.boot_len (pa_cons (pv 7) pa_nil)) pe_int (nomark _)) (pw_or1 (pt_cmpR op_eq (pe_call (ok_law_next A) (hr.mono (by omega)) rfl A.law_next.m A.law_next.F.kp A.law_next.b .nil pass0 (pa_cons (pv 0) (pa_cons pe_int pa_nil))) pe_int (nomark _)))))
    (pss_one (ps_expr (pe_bm PySem.F.plainAttrs_list PySem.F.slot_list_append PySem.F.type_list_append mt_append (pv 4) (pa_cons (pv 7) pa_nil))))
    pss_nil)))))
  (pss_one (ps_ret (pv 4))))))), ?_⟩
    walk_at "rd"
    refine ⟨fun σ' H' => ∃ c : Int, σ' = [some (.ref s), some (.int (n : Nat)), some (.int c), none, none, none, none, none] ∧ 0 ≤ c ∧ c ≤ 30 ∧ StrAt M H' s ∧ Adv [s] H H', ?_, ?_⟩
    · walk_at "rd"
      refine iteB (fun e => ?_) (fun e => ?_)
      · walk_at "rd"
        refine ⟨s, 30, M, rfl, hs, by decide, by decide, fun d H1 d0 d1 hs1 a1 => ?_⟩
        walk_at "rd"
        refine iteB (fun e2 => ?_) (fun e2 => ?_)
        · walk_at "rd"
          refine ⟨s, 12, 30, M, rfl, hs1, by decide, by decide, fun c H2 c0 c1 hs2 a2 => ?_⟩
          walk_at "rd"
          exact ⟨c, rfl, by omega, by omega, hs2, a1.trans a2⟩
        · walk_at "rd"
          refine ⟨s, 9, M, rfl, hs1, by decide, by decide, fun c H2 c0 c1 hs2 a2 => ?_⟩
          walk_at "rd"
          exact ⟨c, rfl, by omega, by omega, hs2, a1.trans a2⟩
      · walk_at "rd"
        refine ⟨s, 9, M, rfl, hs, by decide, by decide, fun c H2 c0 c1 hs2 a2 => ?_⟩
        walk_at "rd"
        exact ⟨c, rfl, by omega, by omega, hs2, a2⟩
    · rintro σ' H1 ⟨c, rfl, c0, c1, hs1, a1⟩
      walk_at "rd"
      refine ⟨s, 1, 6, M, rfl, hs1, by decide, by decide, fun sh H2 sh0 sh1 hs2 a2 => ?_⟩
      walk_at "rd"
      refine ⟨Nat.zero_le _, fun S nS => ?_⟩
      have sS : s ≠ S := fun z => hs2.here (by rw [z]; exact nS)
      have nS0 : H S = none := (a1.trans a2).free (notin1 sS.symm) nS
      walk_at "rd"
      refine ⟨by omega, by omega, ?_⟩
      refine for_range (lo := 0) (n := c.toNat) (fun i σ' H' => ∃ (y5 y6 y7 : Option V) (xs : List V), σ' = [some (.ref s), some (.int (n : Nat)), some (.int c), some (.int sh), some (.ref S), y5, y6, y7] ∧ H' S = some (.lst xs) ∧ xs.length ≤ i ∧ (∀ x ∈ xs, SetV (S :: M) H' n x) ∧ StrAt (S :: M) H' s ∧ Adv [s] H H')
        ⟨_, _, _, [], rfl, upd_same, by simp, by simp, (hs2.fresh nS).same (Adv.new nS), (a1.trans a2).newT nS⟩ ?_ ?_
      · rintro i σ' H3 hi ⟨y5, y6, y7, xs, rfl, hS, hl, hx, hs3, a3⟩
        walk_at "rd"
        refine ⟨s, 12, S :: M, rfl, hs3, by decide, by decide, fun kd H4 k0 k1 hs4 a4 => ?_⟩
        have sN : ∀ b ∈ [s], b ∈ S :: M := by simp [ms]
        have X4 : ∀ x ∈ xs, SetV (S :: M) H4 n x := fun x h => (hx x h).adv a4 sN
        have hS4 := a4 _ _ (notin1 sS.symm) hS
        have al3 : ∀ b ∈ S :: M, H3 b ≠ none := fun b hb => by
          rcases List.mem_cons.mp hb with e | e
          · rw [e, hS]; simp
          · exact alloc_adv al a3 (by simpa using hs3.here) b e
        have al4 : ∀ b ∈ S :: M, H4 b ≠ none := alloc_adv al3 a4 (by simpa using hs4.here)
        have alS : ∀ {H' : Hp}, Adv [s] H4 H' → StrAt (S :: M) H' s → ∀ b ∈ S :: M, H' b ≠ none := fun a h => alloc_adv al4 a (by simpa using h.here)
        walk_at "rd"
        refine ⟨fun σ' H' => ∃ (t : Addr) (r : List Nat) (y5 y6 : Option V), σ' = [some (.ref s), some (.int (n : Nat)), some (.int c), some (.int sh), some (.ref S), y5, y6, some (.ref t)] ∧ StrAt (S :: M) H' s ∧ Adv [s] H4 H' ∧ t ∉ S :: M ∧ H' t = some (.tup (nVl r)) ∧ GoodR n r, ?_, ?_⟩
        · walk_at "rd"
          refine iteB (fun e => ?_) (fun e => ?_)
          · have ek : kd = 0 := by simpa using of_decide_eq_true e
            subst ek
            walk_at "rd"
            refine iteB (fun e2 => ?_) (fun e2 => ?_)
            · have e2 := of_decide_eq_true e2
              walk_at "rd"
              refine ⟨s, S, xs, S :: M, rfl, hs4, .inl hS4, sS.symm, fun z => by rw [z] at e2; exact absurd e2 (by decide), by omega, fun x H5 hx5 hs5 a5 => ?_⟩
              obtain ⟨t, r, rfl, z1, z2, z3⟩ := X4 x hx5
              walk_at "rd"
              exact ⟨t, r, _, _, rfl, hs5, a5, z1, a5 _ _ (fun z => z1 (sN _ z)) z2, z3⟩
            · walk_at "rd"
              refine ⟨_, rfl, _, rfl, ⟨by omega, by omega, by omega, by omega, by omega⟩, fun R nR => ?_⟩
              rw [rgV_nat]
              have e1 := Adv.new (M := []) (o := .lst (nVl (List.range n))) nR
              walk_at "rd"
              refine ⟨⟨S :: M, s, R, List.range n, sh, rfl, hs4.same e1, upd_same, by rw [List.length_range]; omega, fun D rows' H5 nD hD sub hs5 a5 => ?_⟩⟩
              refine ⟨D, _, rfl, .inl ⟨SqL.of hD, fun u nu => ?_⟩⟩
              have a45 := (Adv.nil (N := [s]) e1).trans a5
              walk_at "rd"
              exact ⟨u, rows', _, _, rfl, hs5.same (Adv.new nu), a45.newT nu, fun z => alS a45 hs5 u z nu, upd_same, sub⟩
          · walk_at "rd"
            refine iteB (fun e1 => ?_) (fun e1 => ?_)
            · have ek : kd = 1 := by simpa using of_decide_eq_true e1
              subst ek
              walk_at "rd"
              refine iteB (fun e2 => ?_) (fun e2 => ?_)
              · have e2 := of_decide_eq_true e2
                walk_at "rd"
                refine ⟨s, S, xs, S :: M, rfl, hs4, .inl hS4, sS.symm, fun z => by rw [z] at e2; exact absurd e2 (by decide), by omega, fun x H5 hx5 hs5 a5 => ?_⟩
                obtain ⟨t, r, rfl, z1, z2, z3⟩ := X4 x hx5
                have z2' := a5 _ _ (fun z => z1 (sN _ z)) z2
                walk_at "rd"
                intro l nl
                have e5 := Adv.new (M := []) (o := .lst (nVl r)) nl
                have zl := z3.len
                refine ⟨⟨S :: M, s, l, r, 5, rfl, hs5.same e5, upd_same, by omega, fun D rows' H6 nD hD sub hs6 a6 => ?_⟩⟩
                refine ⟨D, _, rfl, .inl ⟨SqL.of hD, fun u nu => ?_⟩⟩
                have a46 := (a5.trans (Adv.nil e5)).trans a6
                walk_at "rd"
                exact ⟨u, rows', _, _, rfl, hs6.same (Adv.new nu), a46.newT nu, fun z => alS a46 hs6 u z nu, upd_same, sub.trans z3⟩
              · walk_at "rd"
                refine ⟨_, rfl, _, rfl, ⟨by omega, by omega, by omega, by omega, by omega⟩, fun R nR => ?_⟩
                rw [rgV_nat]
                have e1 := Adv.new (M := []) (o := .lst (nVl (List.range n))) nR
                walk_at "rd"
                refine ⟨⟨S :: M, s, R, List.range n, sh, rfl, hs4.same e1, upd_same, by rw [List.length_range]; omega, fun D rows' H5 nD hD sub hs5 a5 => ?_⟩⟩
                refine ⟨D, _, rfl, .inl ⟨SqL.of hD, fun u nu => ?_⟩⟩
                have a45 := (Adv.nil (N := [s]) e1).trans a5
                walk_at "rd"
                exact ⟨u, rows', _, _, rfl, hs5.same (Adv.new nu), a45.newT nu, fun z => alS a45 hs5 u z nu, upd_same, sub⟩
            · walk_at "rd"
              refine iteB (fun e3 => ?_) (fun e3 => ?_)
              · walk_at "rd"
                refine iteB (fun e4 => ?_) (fun e4 => ?_)
                · have e4 := of_decide_eq_true e4
                  walk_at "rd"
                  refine ⟨s, n, S :: M, rfl, hs4, by omega, by omega, fun d H5 d0 d1 hs5 a5 => ?_⟩
                  walk_at "rd"
                  refine ⟨by show 1 ≤ sizeLine; decide, fun u nu => ?_⟩
                  walk_at "rd"
                  obtain ⟨j, rfl⟩ : ∃ j : Nat, d = (j : Int) := ⟨d.toNat, by omega⟩
                  exact ⟨u, [j], _, _, rfl, hs5.same (Adv.new nu), a5.newT nu, fun z => alS a5 hs5 u z nu, upd_same, List.singleton_sublist.mpr (List.mem_range.mpr (by omega))⟩
                · walk_at "rd"
                  refine ⟨_, rfl, _, rfl, ⟨by omega, by omega, by omega, by omega, by omega⟩, fun R nR => ?_⟩
                  rw [rgV_nat]
                  have e1 := Adv.new (M := []) (o := .lst (nVl (List.range n))) nR
                  walk_at "rd"
                  refine ⟨⟨S :: M, s, R, List.range n, sh, rfl, hs4.same e1, upd_same, by rw [List.length_range]; omega, fun D rows' H5 nD hD sub hs5 a5 => ?_⟩⟩
                  refine ⟨D, _, rfl, .inl ⟨SqL.of hD, fun u nu => ?_⟩⟩
                  have a45 := (Adv.nil (N := [s]) e1).trans a5
                  walk_at "rd"
                  exact ⟨u, rows', _, _, rfl, hs5.same (Adv.new nu), a45.newT nu, fun z => alS a45 hs5 u z nu, upd_same, sub⟩
              · walk_at "rd"
                refine ⟨_, rfl, _, rfl, ⟨by omega, by omega, by omega, by omega, by omega⟩, fun R nR => ?_⟩
                rw [rgV_nat]
                have e1 := Adv.new (M := []) (o := .lst (nVl (List.range n))) nR
                walk_at "rd"
                refine ⟨⟨S :: M, s, R, List.range n, sh, rfl, hs4.same e1, upd_same, by rw [List.length_range]; omega, fun D rows' H5 nD hD sub hs5 a5 => ?_⟩⟩
                refine ⟨D, _, rfl, .inl ⟨SqL.of hD, fun u nu => ?_⟩⟩
                have a45 := (Adv.nil (N := [s]) e1).trans a5
                walk_at "rd"
                exact ⟨u, rows', _, _, rfl, hs5.same (Adv.new nu), a45.newT nu, fun z => alS a45 hs5 u z nu, upd_same, sub⟩
        · rintro σ' H5 ⟨t, r, y5, y6, rfl, hs5, a5, z1, z2, z3⟩
          have zl := z3.len
          have hS5 := a5 _ _ (notin1 sS.symm) hS4
          have X5 : ∀ x ∈ xs, SetV (S :: M) H5 n x := fun x h => (X4 x h).adv a5 sN
          have a35 : Adv [s] H H5 := (a3.trans a4).trans a5
          have st := SqT.of (K := K) z2
          have put : ∀ H6, Adv [s] H5 H6 → StrAt (S :: M) H6 s → ∀ x ∈ xs ++ [V.ref t], SetV (S :: M) (upd H6 S (.lst (xs ++ [.ref t]))) n x := fun H6 a6 h6 x hx => by
            have c : Adv [S] H6 (upd H6 S (.lst (xs ++ [.ref t]))) := Adv.set (by simp)
            rcases List.mem_append.mp hx with hx | hx
            · exact ((X5 x hx).adv a6 sN).adv c (by simp)
            · rw [List.mem_singleton.mp hx]
              exact SetV.adv (M := [S]) ⟨t, r, rfl, z1, a6 _ _ (fun z => z1 (sN _ z)) z2, z3⟩ c (by simp)
          have hlen : (xs ++ [V.ref t]).length ≤ i + 1 := by rw [List.length_append]; simp; omega
          walk_at "rd"
          refine iteB (fun e => ?_) (fun e => ?_)
          · walk_at "rd"
            refine rd_app hS5 (by rw [sizeLine_eq]; omega) ?_
            walk_at "rd"
            exact ⟨_, _, _, xs ++ [.ref t], rfl, upd_same, hlen, put H5 (Adv.refl _ _) hs5, hs5.adv (N := [S]) (Adv.set (by simp)) (notin1 sS) (by simp), a35.mut nS0⟩
          · walk_at "rd"
            refine ⟨s, 8, S :: M, rfl, hs5, by decide, by decide, fun d H6 d0 d1 hs6 a6 => ?_⟩
            have hS6 := a6 _ _ (notin1 sS.symm) hS5
            walk_at "rd"
            refine iteB (fun e => ?_) (fun e => ?_)
            · walk_at "rd"
              refine rd_app hS6 (by rw [sizeLine_eq]; omega) ?_
              walk_at "rd"
              exact ⟨_, _, _, xs ++ [.ref t], rfl, upd_same, hlen, put H6 a6 hs6, hs6.adv (N := [S]) (Adv.set (by simp)) (notin1 sS) (by simp), (a35.trans a6).mut nS0⟩
            · walk_at "rd"
              exact ⟨_, _, _, xs, rfl, hS6, by omega, fun x h => (X5 x h).adv a6 sN, hs6, a35.trans a6⟩
      · rintro σ' H3 ⟨y5, y6, y7, xs, rfl, hS, hl, hx, hs3, a3⟩
        walk_at "rd"
        exact q S xs H3 nS0 hS (by omega) hx (hs3.less (by simp +contextual)) a3
end
end K89

set_option Elab.async false
set_option linter.all false
set_option maxRecDepth 100000
set_option maxHeartbeats 400000
namespace K89
open PySem PySem.Spec PyProof.Rows L2 LL
open C8 (pss_cut)
local macro_rules | `(tactic| walk_at "ne") => `(tactic| first | assumption | (apply Ne.symm; assumption) | exact ne_of_none (by walk_at "hp") (by assumption) | exact (ne_of_none (by walk_at "hp") (by assumption)).symm)
local macro_rules | `(tactic| walk_at "nm") => `(tactic| first | assumption | exact notin0 | exact notin1 (by walk_at "ne") | exact notin2 (by walk_at "ne") (by walk_at "ne"))
local macro_rules | `(tactic| walk_at "hp") => `(tactic| first | assumption | exact upd_same | (refine Eq.trans (upd_ne ?ne) ?hh; (case hh => walk_at "hp"); (case ne => walk_at "ne")) | (refine Adv.get' (by assumption) ?hh ?nn; (case hh => walk_at "hp"); (case nn => walk_at "nm")))
local macro_rules | `(tactic| walk_at "tp") => `(tactic| first | assumption | exact Tp.adv (by walk_at "tp") (by assumption) | exact Tp.adv (by walk_at "tp") (Adv.nil (by assumption)))
local macro_rules | `(tactic| walk_at "sq") => `(tactic| first | assumption | exact Tp.sq (by assumption) (by walk_at "tp") | exact SqT.of (by walk_at "hp"))
local macro_rules | `(tactic| walk_at "at") => `(tactic| first | exact atI_nat (j := 0) rfl | exact atI_nat (j := 1) rfl | exact atI_nat (j := 2) rfl | exact atI_nat (j := 3) rfl | exact atI_nat (by assumption) | (rw [Int.zero_add]; exact atI_nat (by assumption)))
local macro_rules | `(tactic| walk_at "bb") => `(tactic| first | assumption | decide | exact rfl)
local macro_rules | `(tactic| walk_at "ci") => `(tactic| first | omega | (dsimp only; omega) | (unfold CDiv; omega) | (unfold CMul; omega))
local macro_rules | `(tactic| walk_at "rd1") => `(tactic| first
  | with_reducible refine rd_c ?_
  | ((with_reducible refine' rd_var ?rh ?_); (case rh => exact rfl))
  | with_reducible refine rd_op ?_
  | with_reducible refine rd_seq ?_
  | with_reducible refine rd_asg ?_
  | with_reducible refine rd_gname ?_
  | with_reducible refine rd_ifS ?_
  | with_reducible refine rd_test ?_
  | with_reducible refine rd_tB ?_
  | with_reducible refine rd_blP ?_
  | ((with_reducible refine' iteY ?rh ?_); (case rh => walk_at "bb"))
  | ((with_reducible refine' iteN ?rh ?_); (case rh => walk_at "bb"))
  | with_reducible refine rd_ret ?_
  | with_reducible refine rd_nx ?_
  | ((with_reducible refine' rd_eq ?rh ?_); (case rh => exact rfl))
  | ((with_reducible refine' rd_ne ?rh ?_); (case rh => exact rfl))
  | with_reducible refine rd_add ?_
  | with_reducible refine rd_sub ?_
  | with_reducible refine rd_i0 ?_
  | with_reducible refine rd_and ?_
  | with_reducible refine rd_or ?_
  | with_reducible refine rd_not ?_
  | with_reducible refine rd_andV ?_
  | with_reducible refine rd_orV ?_
  | with_reducible refine rd_notV ?_
  | with_reducible refine rd_ifE ?_
  | with_reducible refine rd_isN ?_
  | with_reducible refine rd_notN ?_
  | with_reducible refine rd_cons ?_
  | with_reducible refine rd_nil ?_
  | with_reducible refine rd_tup ?_
  | with_reducible refine rd_lst ?_
  | with_reducible refine rd_call ?_
  | with_reducible refine rd_cb ?_
  | with_reducible refine rd_meth ?_
  | with_reducible refine rd_callS ?_
  | with_reducible refine rd_make ?_
  | with_reducible refine rd_rfl ?_
  | with_reducible refine rd_fld ?_
  | with_reducible refine rd_drop ?_
  | with_reducible refine rd_gsub ?_
  | with_reducible refine rd_gcons ?_
  | with_reducible refine rd_gnil ?_
  | with_reducible refine rd_par ?_
  | with_reducible refine rd_two ?_
  | with_reducible refine rd_par3 ?_
  | with_reducible refine rd_three ?_
  | with_reducible refine rd_int1 ?_
  | ((with_reducible refine' rd_i ?rh ?_); (case rh => walk_at "ci"))
  | with_reducible refine rd_part ?_
  | with_reducible refine rd_nopart ?_
  | with_reducible refine rd_int ?_
  | with_reducible refine rd_sl ?_
  | with_reducible refine rd_bm ?_
  | with_reducible refine rd_bm0 ?_
  | with_reducible refine rd_dgetT ?_
  | with_reducible refine rd_din ?_
  | with_reducible refine rd_dnin ?_
  | with_reducible refine rd_un ?_
  | ((with_reducible refine' rd_ixL ?rh ?re ?_); (case rh => walk_at "hp"); (case re => walk_at "at"))
  | ((with_reducible refine' rd_ixT ?rh ?re ?_); (case rh => walk_at "sq"); (case re => walk_at "at"))
  | ((with_reducible refine' rd_lenT ?rh ?_); (case rh => walk_at "sq"))
  | ((with_reducible refine' rd_tyL ?rh ?_); (case rh => walk_at "hp"))
  | ((with_reducible refine' rd_len ?rh ?_); (case rh => walk_at "hp"))
  | with_reducible refine rd_u ?_
  | ((with_reducible refine' rd_slL ?rh ?_); (case rh => walk_at "hp"))
  | with_reducible refine rd_for ?_
  | with_reducible refine rd_rng1 ?_
  | with_reducible refine rd_rng2 ?_
  | with_reducible refine rd_ints1 ?_
  | with_reducible refine rd_ints2 ?_
  | with_reducible refine rd_retN ?_)
local macro_rules | `(tactic| walk_at "rd") => `(tactic| repeat walk_at "rd1")
section
variable [KW]
variable {P : Program} {w : World} {K : PySem.W.Frag} {mg : Str → Option Value} {base : Heap}
theorem de_vv {σ : L2.St} {i j : Nat} {x y : Int} {f : Int → Int → Int} (h : σ[i]? = some (some (.int x))) (h2 : σ[j]? = some (some (.int y))) : DE (tOp (rI0 fun i j => .int (f i j)) (tVar i) (tVar j)) σ (.int (f x y)) :=
  fun M H Q _ k => ⟨_, h, _, h2, x, y, rfl, rfl, k _ _ .int (Adv.refl _ _)⟩
/-- _law_pick out of a written display -/
theorem pick_fin {H : Hp} {Q : VK} {s : Addr} {M : List Addr} {ds : List PyData} (hs : StrAt M H s) (ms : s ∈ M) (hne : ds ≠ []) (hl : ds.length ≤ 1000)
    (q : ∀ x d H', d ∈ ds → Is M H' d x → StrAt M H' s → Adv [s] H H' → Q x H') (p : Addr) (vs : List V) (H' : Hp) (a : Adv [] H H') (pM : p ∉ M) (hp : H' p = some (.lst vs) ∨ H' p = some (.tup vs)) (hx : IsDs M H' ds vs) : spPick [.ref s, .ref p] H' Q E0 := by
  have sM : ∀ b ∈ [s], b ∈ M := by simp [ms]
  have e := hx.len
  refine ⟨s, p, vs, M, rfl, hs.same a, hp, fun z => pM (by rw [z]; exact ms), fun z => hne ?_, by omega, fun x H2 hx2 hs2 a2 => ?_⟩
  · rw [z] at e
    exact List.length_eq_zero_iff.mp e.symm
  · obtain ⟨j, hj, ej⟩ := List.mem_iff_getElem.mp hx2
    obtain ⟨d, hd, h⟩ := hx.getV (i := j) (by rw [List.getElem?_eq_getElem hj, ej])
    exact q x d H2 (List.mem_of_getElem? hd) (h.adv (a2.more sM)) hs2 ((Adv.nil a).trans a2)
theorem rd_pickL {ta : TA} {σ : L2.St} {H : Hp} {Q : VK} {i : Nat} {s : Addr} {M : List Addr} {ds : List PyData} (h1 : σ[i]? = some (some (.ref s))) (hs : StrAt M H s) (ms : s ∈ M) (al : ∀ b ∈ M, H b ≠ none) (hd : DA ta σ ds) (hne : ds ≠ []) (hl : ds.length ≤ 1000)
    (q : ∀ x d H', d ∈ ds → Is M H' d x → StrAt M H' s → Adv [s] H H' → Q x H') : tCall spPick [] E0 (tCons (tVar i) (tCons (tLst ta) tNil)) σ H Q :=
  rd_call (rd_cons (rd_var h1 (rd_cons (rd_lst (hd M H _ al fun vs H' hx a => ⟨by rw [hx.len, sizeLine_eq]; omega, fun p np => pick_fin hs ms hne hl q p vs _ (a.newT np) (fun z => a.alloc al p z np) (.inl upd_same) (hx.adv (Adv.nil (Adv.new np)))⟩)))))
theorem rd_pickT {ta : TA} {σ : L2.St} {H : Hp} {Q : VK} {i : Nat} {s : Addr} {M : List Addr} {ds : List PyData} (h1 : σ[i]? = some (some (.ref s))) (hs : StrAt M H s) (ms : s ∈ M) (al : ∀ b ∈ M, H b ≠ none) (hd : DA ta σ ds) (hne : ds ≠ []) (hl : ds.length ≤ 1000)
    (q : ∀ x d H', d ∈ ds → Is M H' d x → StrAt M H' s → Adv [s] H H' → Q x H') : tCall spPick [] E0 (tCons (tVar i) (tCons (tTup ta) tNil)) σ H Q :=
  rd_call (rd_cons (rd_var h1 (rd_cons (rd_tup (hd M H _ al fun vs H' hx a => ⟨by rw [hx.len, sizeLine_eq]; omega, fun p np => pick_fin hs ms hne hl q p vs _ (a.newT np) (fun z => a.alloc al p z np) (.inr upd_same) (hx.adv (Adv.nil (Adv.new np)))⟩)))))
/-! ### _law_wrong_set -/
def wsD (n k : Int) : List PyData := [.list [], .list [.int 0], .tuple [.int n], .tuple [.int 0, .int (n + k)], .tuple [.int (-1)], .tuple [.int k, .int k], .tuple [.int (k + 1), .int k], .tuple [.bool true], .tuple [.int 0, .bool true], .tuple [.str "0"], .tuple [.none], .str "", .none, .int k, .tuple [.tuple [.int 0]]]
theorem wsD_bad {n : Nat} {k : Int} (h0 : 0 ≤ k) : ∀ d ∈ wsD n k, rowsB (n : Int) d = false ∧ tupZ d := by
  intro d hd
  unfold wsD at hd
  simp only [List.mem_cons, List.not_mem_nil, or_false] at hd
  have tz : ∀ {ds : List PyData}, ds.length ≤ 1000000 → tupZ (.tuple ds) := fun h ds' e => by injection e with e; rw [← e]; exact h
  have nz : ∀ {d : PyData}, (∀ ds, d ≠ .tuple ds) → tupZ d := fun h ds e => absurd e (h ds)
  rcases hd with rfl | rfl | rfl | rfl | rfl | rfl | rfl | rfl | rfl | rfl | rfl | rfl | rfl | rfl | rfl
  · exact ⟨rfl, nz fun _ => nofun⟩
  · exact ⟨rfl, nz fun _ => nofun⟩
  · refine ⟨?_, tz (by simp)⟩
    show ((_ && _) && _) = false
    have : isNum 0 ((n : Int) - 1) (.int (n : Int)) = false := by
      show (decide (0 ≤ (n : Int)) && decide ((n : Int) ≤ (n : Int) - 1)) = false
      rw [decide_eq_false (by omega : ¬ (n : Int) ≤ (n : Int) - 1), Bool.and_false]
    rw [this]
    rfl
  · refine ⟨?_, tz (by simp)⟩
    have : isNum 0 ((n : Int) - 1) (.int ((n : Int) + k)) = false := by
      show (decide (0 ≤ (n : Int) + k) && decide ((n : Int) + k ≤ (n : Int) - 1)) = false
      rw [decide_eq_false (by omega : ¬ (n : Int) + k ≤ (n : Int) - 1), Bool.and_false]
    show ((_ && (_ && _)) && _) = false
    rw [this, Bool.false_and, Bool.and_false, Bool.false_and]
  · exact ⟨rfl, tz (by simp)⟩
  · refine ⟨?_, tz (by simp)⟩
    have : risB [k, k] = false := by
      show ((decide (k < k)) && true) = false
      rw [decide_eq_false (by omega : ¬ k < k)]; rfl
    show (_ && risB [k, k]) = false
    rw [this, Bool.and_false]
  · refine ⟨?_, tz (by simp)⟩
    have : risB [k + 1, k] = false := by
      show ((decide (k + 1 < k)) && true) = false
      rw [decide_eq_false (by omega : ¬ k + 1 < k)]; rfl
    show (_ && risB [k + 1, k]) = false
    rw [this, Bool.and_false]
  · exact ⟨rfl, tz (by simp)⟩
  · refine ⟨?_, tz (by simp)⟩
    show ((_ && (isNum 0 _ (.bool true) && _)) && _) = false
    rw [show isNum 0 ((n : Int) - 1) (.bool true) = false from rfl, Bool.false_and, Bool.and_false, Bool.false_and]
  · exact ⟨rfl, tz (by simp)⟩
  · exact ⟨rfl, tz (by simp)⟩
  · exact ⟨rfl, nz fun _ => nofun⟩
  · exact ⟨rfl, nz fun _ => nofun⟩
  · exact ⟨rfl, nz fun _ => nofun⟩
  · exact ⟨rfl, tz (by simp)⟩
structure WrsP (vs : List V) (H : Hp) (Q : VK) : Prop where
  ex : ∃ (M : List Addr) (s : Addr) (n : Nat), vs = [.ref s, .int (n : Nat)] ∧ StrAt M H s ∧ s ∈ M ∧ (∀ b ∈ M, H b ≠ none) ∧ n ≤ 12 ∧
    ∀ v d H', Is M H' d v → rowsB (n : Int) d = false → tupZ d → StrAt M H' s → Adv [s] H H' → Q v H'
def spWrs : Sp := fun vs H Q _ => WrsP vs H Q
theorem ok_law_wrong_set (A : All K mg w) : FnOk P w K mg base CX0 3 A.law_wrong_set.f A.law_wrong_set.fd ["stream", "many"] spWrs := by
  refine A.law_wrong_set.F.ok sc_law_wrong_set (fun vs H Q E h => ?_) (fun cdv Ar outer s0 H vs Q E hr h => ?_)
  · obtain ⟨M, s, n, rfl, _⟩ := h.ex
    rfl
  · obtain ⟨M, s, n, rfl, hs, ms, al, hn, q⟩ := h.ex
    refine ⟨_, (pss_cons (ps_set (i := 2) sc_law_wrong_set.nd rfl (Or.inl rfl) (pe_call (ok_law_next A) (hr.mono (by omega)) rfl A.law_next.m A.law_next.F.kp A.law_next.b .nil pass0 (pa_cons (pv 0) (pa_cons (pe_op op_add (pv 1) pe_int) pa_nil))))
  (pss_one (ps_ret (pe_call (ok_law_pick A) (hr.mono (by omega)) rfl A.law_pick.m A.law_pick.F.kp A.law_pick.b .nil pass0 (pa_cons (pv 0) (pa_cons (pe_lst (pa_cons (pe_lst pa_nil) (pa_cons (pe_lst (pa_cons pe_int pa_nil)) (pa_cons (pe_tup (pa_cons (pv 1) pa_nil)) (pa_cons (pe_tup (pa_cons pe_int (pa_cons (pe_op op_add (pv 1) (pv 2)) pa_nil))) (pa_cons (pe_tup (pa_cons (pe_un un_neg pe_int) pa_nil)) (pa_cons (pe_tup (pa_cons (pv 2) (pa_cons (pv 2) pa_nil))) (pa_cons (pe_tup (pa_cons (pe_op op_add (pv 2) pe_int) (pa_cons (pv 2) pa_nil))) (pa_cons (pe_tup (pa_cons pe_bl pa_nil)) (pa_cons (pe_tup (pa_cons pe_int (pa_cons pe_bl pa_nil))) (pa_cons (pe_tup (pa_cons pe_str pa_nil)) (pa_cons (pe_tup (pa_cons pe_non pa_nil)) (pa_cons pe_str (pa_cons pe_non (pa_cons (pv 2) (pa_cons (pe_tup (pa_cons (pe_tup (pa_cons pe_int pa_nil)) pa_nil)) pa_nil)))))))))))))))) pa_nil)))))), ?_⟩
    walk_at "rd"
    refine ⟨s, (n : Int) + 1, M, rfl, hs, by omega, by omega, fun k H1 k0 k1 hs1 a1 => ?_⟩
    walk_at "rd1"
    walk_at "rd1"
    refine rd_pickL (i := 0) (ds := wsD n k) rfl hs1 ms (alloc_adv al a1 (by simpa using hs1.here)) ?_ (by simp [wsD]) (by simp [wsD]) ?_
    · exact da_cons (de_lst da_nil (by simp)) (da_cons (de_lst (da_cons de_int da_nil) (by simp)) (da_cons (de_tup (da_cons (de_var rfl) da_nil) (by simp)) (da_cons (de_tup (da_cons de_int (da_cons (de_vv (f := fun i j => i + j) rfl rfl) da_nil)) (by simp)) (da_cons (de_tup (da_cons de_neg da_nil) (by simp)) (da_cons (de_tup (da_cons (de_var rfl) (da_cons (de_var rfl) da_nil)) (by simp))
        (da_cons (de_tup (da_cons (de_varop (f := fun i j => i + j) rfl) (da_cons (de_var rfl) da_nil)) (by simp)) (da_cons (de_tup (da_cons de_bl da_nil) (by simp)) (da_cons (de_tup (da_cons de_int (da_cons de_bl da_nil)) (by simp)) (da_cons (de_tup (da_cons de_str da_nil) (by simp)) (da_cons (de_tup (da_cons de_non da_nil) (by simp)) (da_cons de_str (da_cons de_non (da_cons (de_var rfl) (da_cons (de_tup (da_cons (de_tup (da_cons de_int da_nil) (by simp)) da_nil) (by simp)) da_nil))))))))))))))
    · intro x d H' hd hx hs' a'
      have hw := wsD_bad (n := n) k0 d hd
      exact q x d H' hx hw.1 hw.2 hs' (a1.trans a')
end
end K89

set_option Elab.async false
set_option linter.all false
set_option maxRecDepth 100000
set_option maxHeartbeats 400000
namespace K89
open PySem PySem.Spec PyProof.Rows L2 LL
open C8 (pss_cut)
local macro_rules | `(tactic| walk_at "ne") => `(tactic| first | assumption | (apply Ne.symm; assumption) | exact ne_of_none (by walk_at "hp") (by assumption) | exact (ne_of_none (by walk_at "hp") (by assumption)).symm)
local macro_rules | `(tactic| walk_at "nm") => `(tactic| first | assumption | exact notin0 | exact notin1 (by walk_at "ne") | exact notin2 (by walk_at "ne") (by walk_at "ne"))
local macro_rules | `(tactic| walk_at "hp") => `(tactic| first | assumption | exact upd_same | (refine Eq.trans (upd_ne ?ne) ?hh; (case hh => walk_at "hp"); (case ne => walk_at "ne")) | (refine Adv.get' (by assumption) ?hh ?nn; (case hh => walk_at "hp"); (case nn => walk_at "nm")))
local macro_rules | `(tactic| walk_at "tp") => `(tactic| first | assumption | exact Tp.adv (by walk_at "tp") (by assumption) | exact Tp.adv (by walk_at "tp") (Adv.nil (by assumption)))
local macro_rules | `(tactic| walk_at "sq") => `(tactic| first | assumption | exact Tp.sq (by assumption) (by walk_at "tp") | exact SqT.of (by walk_at "hp"))
local macro_rules | `(tactic| walk_at "at") => `(tactic| first | exact atI_nat (j := 0) rfl | exact atI_nat (j := 1) rfl | exact atI_nat (j := 2) rfl | exact atI_nat (j := 3) rfl | exact atI_nat (by assumption) | (rw [Int.zero_add]; exact atI_nat (by assumption)))
local macro_rules | `(tactic| walk_at "bb") => `(tactic| first | assumption | decide | exact rfl)
local macro_rules | `(tactic| walk_at "ci") => `(tactic| first | omega | (dsimp only; omega) | (unfold CDiv; omega) | (unfold CMul; omega))
local macro_rules | `(tactic| walk_at "rd1") => `(tactic| first
  | with_reducible refine rd_c ?_
  | ((with_reducible refine' rd_var ?rh ?_); (case rh => exact rfl))
  | with_reducible refine rd_op ?_
  | with_reducible refine rd_seq ?_
  | with_reducible refine rd_asg ?_
  | with_reducible refine rd_gname ?_
  | with_reducible refine rd_ifS ?_
  | with_reducible refine rd_test ?_
  | with_reducible refine rd_tB ?_
  | with_reducible refine rd_blP ?_
  | ((with_reducible refine' iteY ?rh ?_); (case rh => walk_at "bb"))
  | ((with_reducible refine' iteN ?rh ?_); (case rh => walk_at "bb"))
  | with_reducible refine rd_ret ?_
  | with_reducible refine rd_nx ?_
  | ((with_reducible refine' rd_eq ?rh ?_); (case rh => exact rfl))
  | ((with_reducible refine' rd_ne ?rh ?_); (case rh => exact rfl))
  | with_reducible refine rd_add ?_
  | with_reducible refine rd_sub ?_
  | with_reducible refine rd_i0 ?_
  | with_reducible refine rd_and ?_
  | with_reducible refine rd_or ?_
  | with_reducible refine rd_not ?_
  | with_reducible refine rd_andV ?_
  | with_reducible refine rd_orV ?_
  | with_reducible refine rd_notV ?_
  | with_reducible refine rd_ifE ?_
  | with_reducible refine rd_isN ?_
  | with_reducible refine rd_notN ?_
  | with_reducible refine rd_cons ?_
  | with_reducible refine rd_nil ?_
  | with_reducible refine rd_tup ?_
  | with_reducible refine rd_lst ?_
  | with_reducible refine rd_call ?_
  | with_reducible refine rd_cb ?_
  | with_reducible refine rd_meth ?_
  | with_reducible refine rd_callS ?_
  | with_reducible refine rd_make ?_
  | with_reducible refine rd_rfl ?_
  | with_reducible refine rd_fld ?_
  | with_reducible refine rd_drop ?_
  | with_reducible refine rd_gsub ?_
  | with_reducible refine rd_gcons ?_
  | with_reducible refine rd_gnil ?_
  | with_reducible refine rd_par ?_
  | with_reducible refine rd_two ?_
  | with_reducible refine rd_par3 ?_
  | with_reducible refine rd_three ?_
  | with_reducible refine rd_int1 ?_
  | ((with_reducible refine' rd_i ?rh ?_); (case rh => walk_at "ci"))
  | with_reducible refine rd_part ?_
  | with_reducible refine rd_nopart ?_
  | with_reducible refine rd_int ?_
  | with_reducible refine rd_sl ?_
  | with_reducible refine rd_bm ?_
  | with_reducible refine rd_bm0 ?_
  | with_reducible refine rd_dgetT ?_
  | with_reducible refine rd_din ?_
  | with_reducible refine rd_dnin ?_
  | with_reducible refine rd_un ?_
  | ((with_reducible refine' rd_ixL ?rh ?re ?_); (case rh => walk_at "hp"); (case re => walk_at "at"))
  | ((with_reducible refine' rd_ixT ?rh ?re ?_); (case rh => walk_at "sq"); (case re => walk_at "at"))
  | ((with_reducible refine' rd_lenT ?rh ?_); (case rh => walk_at "sq"))
  | ((with_reducible refine' rd_tyL ?rh ?_); (case rh => walk_at "hp"))
  | ((with_reducible refine' rd_len ?rh ?_); (case rh => walk_at "hp"))
  | with_reducible refine rd_u ?_
  | ((with_reducible refine' rd_slL ?rh ?_); (case rh => walk_at "hp"))
  | with_reducible refine rd_for ?_
  | with_reducible refine rd_rng1 ?_
  | with_reducible refine rd_rng2 ?_
  | with_reducible refine rd_ints1 ?_
  | with_reducible refine rd_ints2 ?_
  | with_reducible refine rd_retN ?_)
local macro_rules | `(tactic| walk_at "rd") => `(tactic| repeat walk_at "rd1")
section
variable [KW]
variable {P : Program} {w : World} {K : PySem.W.Frag} {mg : Str → Option Value} {base : Heap}
theorem nam_V {Z : Exs K mg} (N : NF Z "BadValue") : Nam K mg Z "BadValue" := ⟨N, 7, rfl, by decide, rfl, fun m hm z hz => by
  have : m = 0 ∨ m = 1 ∨ m = 2 ∨ m = 3 ∨ m = 4 ∨ m = 5 ∨ m = 6 := by omega
  rcases this with rfl | rfl | rfl | rfl | rfl | rfl | rfl <;> (cases hz; decide)⟩
/-! ### _law_asked -/
structure AskP (vs : List V) (H : Hp) (Q : VK) : Prop where
  ex : ∃ (M : List Addr) (v1 v2 : V) (d1 d2 : PyData) (nm : Str), vs = [v1, v2] ∧ (∀ b ∈ M, H b ≠ none) ∧ Is [] H d1 v1 ∧ Is [] H d2 v2 ∧ (∀ ds, d2 = .list ds → ds.length ≤ 100000 ∧ ∀ d ∈ ds, tupZ d) ∧
    ((isNum 0 12 d1 = false ∧ nm = "many") ∨ (∃ i, d1 = .int i ∧ isNum 0 12 d1 = true ∧ setsB i d2 = false ∧ nm = "sets")) ∧ ∀ v' H', Is M H' (.tuple [.str "BadValue", .str nm]) v' → Adv [] H H' → Q v' H'
def spAsk : Sp := fun vs H Q _ => AskP vs H Q
theorem ok_law_asked (A : All K mg w) (Z : Exs K mg) (Z2 : Er_BadValue Z) : FnOk P w K mg base CX0 9 A.law_asked.f A.law_asked.fd ["many", "sets"] spAsk := by
  refine A.law_asked.F.ok sc_law_asked (fun vs H Q E h => ?_) (fun cdv Ar outer s H vs Q E hr h => ?_)
  · obtain ⟨M, v1, v2, d1, d2, nm, rfl, _⟩ := h.ex
    rfl
  · obtain ⟨M, v1, v2, d1, d2, nm, rfl, al, h1, h2, hz, hw, q⟩ := h.ex
    refine ⟨_, (pss_one (ps_tryAs (n := "e") (i := 2) (Wout := fun _ _ _ _ => False) rfl rfl sc_law_asked.nd rfl rfl takes_no
    (fun W pn xe tk po => (pss_one (ps_ret (pe_tup (pa_cons pe_str (pa_cons (pe_callS (ok_crossing A Z Z2) (hr.mono (by omega)) rfl A.crossing.m A.crossing.F.kp A.crossing.b (fun σ => L2N.passAt tk σ) (pa_cons (pv 0) (pa_cons (pv 1) pa_nil))) pa_nil))))))
    (.cons (c := .ref Z.CE) ⟨rfl, by decide, .inl Z.mC⟩ (fun a oe cls d pn hz hf => (pss_one (ps_ret (pe_ifExp (pt_val (pe_callB (call_isA K rfl hz.zc hf List.mem_cons_self) (by rfl) A.T.isinstance (by decide +kernel) (pa_cons (pv 2) (pa_cons (pe_glob (v := .ref (Z.cA "BadValue")) rfl (Z.mA "BadValue" (by decide)) rfl) pa_nil)))) (pe_tup (pa_cons (pe_named (X := (cxOf CX0 P w K mg base ["many", "sets", "e"] "_law_asked" (defScope s_law_asked) A.law_asked.f cdv Ar outer s H E).nox) (pn := pn) A Z (hr.mono (by omega)) (by rfl) hz.zc hf (pv 2)) (pa_cons (pe_xf Z2.X Z2.A_ hz.zc hf (pv 2)) pa_nil))) (pe_tup (pa_cons (pe_named (X := (cxOf CX0 P w K mg base ["many", "sets", "e"] "_law_asked" (defScope s_law_asked) A.law_asked.f cdv Ar outer s H E).nox) (pn := pn) A Z (hr.mono (by omega)) (by rfl) hz.zc hf (pv 2)) (pa_cons pe_str pa_nil))))))) .nil))), ?_⟩
    walk_at "rd"
    have kV : PySem.W.kitOne K (.ref (Z.cA "BadValue")) (.ref (Z.cA "BadValue")) = some true := (Z2.N.k "BadValue" (by decide)).trans (congrArg some (by decide))
    refine ⟨v1, v2, rfl, ⟨M, d1, d2, al, h1, h2, hz, fun e1 dd H2 a2 n2 hdd => ?_, fun i e0 e1 e2 dd H2 a2 n2 hdd => ?_, fun n rowss e0 e1 e2 e4 e3 => ?_⟩⟩
    · have enm : nm = "many" := by
        rcases hw with ⟨_, h⟩ | ⟨i, _, h, _⟩
        · exact h
        · rw [h] at e1; cases e1
      subst enm
      refine ⟨true, Z2.N.hC, fun _ a na => ?_, (fun z => nomatch z)⟩
      walk_at "rd"
      refine ⟨Z.cA "BadValue", rfl, Z2.N.eD, _, _, true, rfl, fun u hu => by cases hu; rfl, fun dd' z => ⟨_, by cases z; exact hdd⟩, kV, ?_⟩
      walk_at "rd"
      refine ⟨_, rfl, rfl, "BadValue", nam_V Z2.N, rfl, fun dd' z => ⟨_, by cases z; exact hdd⟩, fun H3 a3 => ?_⟩
      walk_at "rd"
      refine ⟨_, rfl, rfl, rfl, dd, _, .str "many", rfl, a3.same _ _ hdd, rfl, ?_⟩
      walk_at "rd"
      refine ⟨by show 2 ≤ sizeLine; decide, fun p np => ?_⟩
      exact q _ _ (Is.tup upd_same (not_mem_new (alloc_adv al (a2.trans a3) (by simp)) np) (.cons .str (.cons .str .nil))) ((a2.trans a3).newT np)
    · have enm : nm = "sets" := by
        rcases hw with ⟨h, _⟩ | ⟨i, _, _, _, h⟩
        · rw [h] at e1; cases e1
        · exact h
      subst enm
      refine ⟨true, Z2.N.hC, fun _ a na => ?_, (fun z => nomatch z)⟩
      walk_at "rd"
      refine ⟨Z.cA "BadValue", rfl, Z2.N.eD, _, _, true, rfl, fun u hu => by cases hu; rfl, fun dd' z => ⟨_, by cases z; exact hdd⟩, kV, ?_⟩
      walk_at "rd"
      refine ⟨_, rfl, rfl, "BadValue", nam_V Z2.N, rfl, fun dd' z => ⟨_, by cases z; exact hdd⟩, fun H3 a3 => ?_⟩
      walk_at "rd"
      refine ⟨_, rfl, rfl, rfl, dd, _, .str "sets", rfl, a3.same _ _ hdd, rfl, ?_⟩
      walk_at "rd"
      refine ⟨by show 2 ≤ sizeLine; decide, fun p np => ?_⟩
      exact q _ _ (Is.tup upd_same (not_mem_new (alloc_adv al (a2.trans a3) (by simp)) np) (.cons .str (.cons .str .nil))) ((a2.trans a3).newT np)
    · exfalso
      subst e0 e2
      rcases hw with ⟨h, _⟩ | ⟨i, hi, _, h, _⟩
      · have : isNum 0 12 (.int (n : Int)) = true := by
          show (decide (0 ≤ (n : Int)) && decide ((n : Int) ≤ 12)) = true
          rw [decide_eq_true (by omega), decide_eq_true (by omega)]; rfl
        rw [this] at h; cases h
      · injection hi with hi
        subst hi
        rw [e4] at h; cases h
end
end K89

set_option Elab.async false
set_option linter.all false
set_option maxRecDepth 100000
set_option maxHeartbeats 400000
namespace K89
open PySem PySem.Spec PyProof.Rows L2 LL
open C8 (pss_cut)
local macro_rules | `(tactic| walk_at "ne") => `(tactic| first | assumption | (apply Ne.symm; assumption) | exact ne_of_none (by walk_at "hp") (by assumption) | exact (ne_of_none (by walk_at "hp") (by assumption)).symm)
local macro_rules | `(tactic| walk_at "nm") => `(tactic| first | assumption | exact notin0 | exact notin1 (by walk_at "ne") | exact notin2 (by walk_at "ne") (by walk_at "ne"))
local macro_rules | `(tactic| walk_at "hp") => `(tactic| first | assumption | exact upd_same | (refine Eq.trans (upd_ne ?ne) ?hh; (case hh => walk_at "hp"); (case ne => walk_at "ne")) | (refine Adv.get' (by assumption) ?hh ?nn; (case hh => walk_at "hp"); (case nn => walk_at "nm")))
local macro_rules | `(tactic| walk_at "tp") => `(tactic| first | assumption | exact Tp.adv (by walk_at "tp") (by assumption) | exact Tp.adv (by walk_at "tp") (Adv.nil (by assumption)))
local macro_rules | `(tactic| walk_at "sq") => `(tactic| first | assumption | exact Tp.sq (by assumption) (by walk_at "tp") | exact SqT.of (by walk_at "hp"))
local macro_rules | `(tactic| walk_at "at") => `(tactic| first | exact atI_nat (j := 0) rfl | exact atI_nat (j := 1) rfl | exact atI_nat (j := 2) rfl | exact atI_nat (j := 3) rfl | exact atI_nat (by assumption) | (rw [Int.zero_add]; exact atI_nat (by assumption)))
local macro_rules | `(tactic| walk_at "bb") => `(tactic| first | assumption | decide | exact rfl)
local macro_rules | `(tactic| walk_at "ci") => `(tactic| first | omega | (dsimp only; omega) | (unfold CDiv; omega) | (unfold CMul; omega))
local macro_rules | `(tactic| walk_at "rd1") => `(tactic| first
  | with_reducible refine rd_c ?_
  | ((with_reducible refine' rd_var ?rh ?_); (case rh => exact rfl))
  | with_reducible refine rd_op ?_
  | with_reducible refine rd_seq ?_
  | with_reducible refine rd_asg ?_
  | with_reducible refine rd_gname ?_
  | with_reducible refine rd_ifS ?_
  | with_reducible refine rd_test ?_
  | with_reducible refine rd_tB ?_
  | with_reducible refine rd_blP ?_
  | ((with_reducible refine' iteY ?rh ?_); (case rh => walk_at "bb"))
  | ((with_reducible refine' iteN ?rh ?_); (case rh => walk_at "bb"))
  | with_reducible refine rd_ret ?_
  | with_reducible refine rd_nx ?_
  | ((with_reducible refine' rd_eq ?rh ?_); (case rh => exact rfl))
  | ((with_reducible refine' rd_ne ?rh ?_); (case rh => exact rfl))
  | with_reducible refine rd_add ?_
  | with_reducible refine rd_sub ?_
  | with_reducible refine rd_i0 ?_
  | with_reducible refine rd_and ?_
  | with_reducible refine rd_or ?_
  | with_reducible refine rd_not ?_
  | with_reducible refine rd_andV ?_
  | with_reducible refine rd_orV ?_
  | with_reducible refine rd_notV ?_
  | with_reducible refine rd_ifE ?_
  | with_reducible refine rd_isN ?_
  | with_reducible refine rd_notN ?_
  | with_reducible refine rd_cons ?_
  | with_reducible refine rd_nil ?_
  | with_reducible refine rd_tup ?_
  | with_reducible refine rd_lst ?_
  | with_reducible refine rd_call ?_
  | with_reducible refine rd_cb ?_
  | with_reducible refine rd_meth ?_
  | with_reducible refine rd_callS ?_
  | with_reducible refine rd_make ?_
  | with_reducible refine rd_rfl ?_
  | with_reducible refine rd_fld ?_
  | with_reducible refine rd_drop ?_
  | with_reducible refine rd_gsub ?_
  | with_reducible refine rd_gcons ?_
  | with_reducible refine rd_gnil ?_
  | with_reducible refine rd_par ?_
  | with_reducible refine rd_two ?_
  | with_reducible refine rd_par3 ?_
  | with_reducible refine rd_three ?_
  | with_reducible refine rd_int1 ?_
  | ((with_reducible refine' rd_i ?rh ?_); (case rh => walk_at "ci"))
  | with_reducible refine rd_part ?_
  | with_reducible refine rd_nopart ?_
  | with_reducible refine rd_int ?_
  | with_reducible refine rd_sl ?_
  | with_reducible refine rd_bm ?_
  | with_reducible refine rd_bm0 ?_
  | with_reducible refine rd_dgetT ?_
  | with_reducible refine rd_din ?_
  | with_reducible refine rd_dnin ?_
  | with_reducible refine rd_un ?_
  | ((with_reducible refine' rd_ixL ?rh ?re ?_); (case rh => walk_at "hp"); (case re => walk_at "at"))
  | ((with_reducible refine' rd_ixT ?rh ?re ?_); (case rh => walk_at "sq"); (case re => walk_at "at"))
  | ((with_reducible refine' rd_lenT ?rh ?_); (case rh => walk_at "sq"))
  | ((with_reducible refine' rd_tyL ?rh ?_); (case rh => walk_at "hp"))
  | ((with_reducible refine' rd_len ?rh ?_); (case rh => walk_at "hp"))
  | with_reducible refine rd_u ?_
  | ((with_reducible refine' rd_slL ?rh ?_); (case rh => walk_at "hp"))
  | with_reducible refine rd_for ?_
  | with_reducible refine rd_rng1 ?_
  | with_reducible refine rd_rng2 ?_
  | with_reducible refine rd_ints1 ?_
  | with_reducible refine rd_ints2 ?_
  | with_reducible refine rd_retN ?_)
local macro_rules | `(tactic| walk_at "rd") => `(tactic| repeat walk_at "rd1")
section
variable [KW]
variable {P : Program} {w : World} {K : PySem.W.Frag} {mg : Str → Option Value} {base : Heap}
theorem _root_.LL.IsDs.take_ {M : List Addr} {H : Hp} {ds : List PyData} {vs : List V} (x : IsDs M H ds vs) (i : Nat) : IsDs M H (ds.take i) (vs.take i) := by
  refine IsDs.of_get (by rw [List.length_take, List.length_take, x.len]) fun j d v h1 h2 => ?_
  rw [List.getElem?_take] at h1 h2
  split at h1
  · rename_i hj
    rw [if_pos hj] at h2
    obtain ⟨v', e, hv⟩ := x.get h1
    rw [h2] at e
    cases e
    exact hv
  · cases h1
theorem ris_of : ∀ {l : List Int}, l.Pairwise (· < ·) → risB l = true := fun {l} h => by
  unfold risB
  refine List.all_eq_true.mpr fun i hi => decide_eq_true ?_
  have hi := List.mem_range.mp hi
  have h1 : i < l.length := by omega
  have h2 : i + 1 < l.length := by omega
  rw [List.getD_eq_getElem?_getD, List.getD_eq_getElem?_getD, List.getElem?_eq_getElem h1, List.getElem?_eq_getElem h2]
  exact List.pairwise_iff_getElem.mp h i (i + 1) h1 h2 (by omega)
theorem good_rowsB {n : Nat} {r : List Nat} (h : GoodR n r) : rowsB (n : Int) (.tuple (nD r)) = true := by
  show ((nD r).all (isNum 0 ((n : Int) - 1)) && risB ((nD r).map LL.intD)) = true
  rw [Bool.and_eq_true, nD_int]
  refine ⟨?_, ris_of h.asc⟩
  rw [List.all_eq_true]
  intro d hd
  unfold nD at hd
  obtain ⟨k, hk, rfl⟩ := List.mem_map.mp hd
  have := h.lt k hk
  show (decide (0 ≤ (k : Int)) && decide ((k : Int) ≤ (n : Int) - 1)) = true
  rw [decide_eq_true (by omega), decide_eq_true (by omega)]
  rfl
def rwD (r : List Nat) : PyData := .tuple (nD r)
theorem rwD_tz {n : Nat} {r : List Nat} (hn : n ≤ 12) (h : GoodR n r) : tupZ (rwD r) := fun ds e => by
  have hl := h.len
  unfold rwD at e
  injection e with e
  rw [← e, show (nD r).length = r.length from List.length_map ..]
  omega
theorem setv_ds {M : List Addr} {H : Hp} {n : Nat} : ∀ {xs : List V}, (∀ x ∈ xs, SetV M H n x) → ∃ rowss : List (List Nat), IsDs M H (rowss.map rwD) xs ∧ ∀ r ∈ rowss, GoodR n r
  | [], _ => ⟨[], .nil, by simp⟩
  | x :: xs, h => by
    obtain ⟨t, r, rfl, h1, h2, h3⟩ := h x List.mem_cons_self
    obtain ⟨rowss, hs, hg⟩ := setv_ds fun y hy => h y (List.mem_cons_of_mem _ hy)
    exact ⟨r :: rowss, .cons (Is.tp (.inl ⟨h1, h2⟩) (nD_is r)) hs, fun r' hr => by
      rcases List.mem_cons.mp hr with rfl | hr
      · exact h3
      · exact hg r' hr⟩
theorem cut_ds {M : List Addr} {H : Hp} {ds : List PyData} {vs : List V} (x : IsDs M H ds vs) (lo hi : Option Int) : ∃ es, IsDs M H es (cutV vs lo hi) ∧ ∀ d ∈ es, d ∈ ds := by
  unfold cutV
  exact ⟨_, (x.drop _).take_ _, fun d h => List.mem_of_mem_drop (List.mem_of_mem_take h)⟩
/-! ### _law_refuses -/
structure RefP (vs : List V) (H : Hp) (Q : VK) : Prop where
  ex : ∃ (M : List Addr) (s S : Addr) (n : Nat) (xs : List V), vs = [.ref s, .int (n : Nat), .ref S] ∧ StrAt M H s ∧ s ∈ M ∧ (∀ b ∈ M, H b ≠ none) ∧ n ≤ 12 ∧ S ∉ M ∧ H S = some (.lst xs) ∧ xs.length ≤ 100 ∧ (∀ x ∈ xs, SetV M H n x) ∧ ∀ H', Q (.bl true) H'
def spRef : Sp := fun vs H Q _ => RefP vs H Q
theorem ok_law_refuses (A : All K mg w) (Z : Exs K mg) (Z2 : Er_BadValue Z) : FnOk P w K mg base CX0 12 A.law_refuses.f A.law_refuses.fd ["stream", "many", "sets"] spRef := by
  refine A.law_refuses.F.ok sc_law_refuses (fun vs H Q E h => ?_) (fun cdv Ar outer s0 H vs Q E hr h => ?_)
  · obtain ⟨M, s, S, n, xs, rfl, _⟩ := h.ex
    rfl
  · obtain ⟨M, s, S, n, xs, rfl, hs, ms, al, hn, SM, hS, hl, hx, q⟩ := h.ex
    refine ⟨_, (pss_cons (ps_set (i := 3) sc_law_refuses.nd rfl (Or.inl rfl) (pe_call (ok_law_pick A) (hr.mono (by omega)) rfl A.law_pick.m A.law_pick.F.kp A.law_pick.b .nil pass0 (pa_cons (pv 0) (pa_cons (pe_lst (pa_cons (pe_un un_neg pe_int) (pa_cons pe_int (pa_cons (pe_op op_add pe_int (pe_call (ok_law_next A) (hr.mono (by omega)) rfl A.law_next.m A.law_next.F.kp A.law_next.b .nil pass0 (pa_cons (pv 0) (pa_cons pe_int pa_nil)))) (pa_cons (pe_op op_sub (pe_un un_neg pe_int) (pe_call (ok_law_next A) (hr.mono (by omega)) rfl A.law_next.m A.law_next.F.kp A.law_next.b .nil pass0 (pa_cons (pv 0) (pa_cons pe_int pa_nil)))) (pa_cons pe_non (pa_cons pe_bl (pa_cons pe_str (pa_cons (pe_tup (pa_cons (pv 1) pa_nil)) (pa_cons (pe_lst (pa_cons (pv 1) pa_nil)) pa_nil)))))))))) pa_nil))))
  (pss_cons (ps_set (i := 4) sc_law_refuses.nd rfl (Or.inl rfl) (pe_call (ok_law_next A) (hr.mono (by omega)) rfl A.law_next.m A.law_next.F.kp A.law_next.b .nil pass0 (pa_cons (pv 0) (pa_cons (pe_op op_add (pe_callB call_len_seq (by rfl) A.T.len PySem.boot_len (pa_cons (pv 2) pa_nil)) pe_int) pa_nil))))
  (pss_cons (ps_set (i := 5) sc_law_refuses.nd rfl (Or.inl rfl) (pe_op op_cat (pe_op op_cat (pe_slice sl_list (pv 2) po_none (po_some (pv 4))) (pe_lst (pa_cons (pe_call (ok_law_wrong_set A) (hr.mono (by omega)) rfl A.law_wrong_set.m A.law_wrong_set.F.kp A.law_wrong_set.b .nil pass0 (pa_cons (pv 0) (pa_cons (pv 1) pa_nil))) pa_nil))) (pe_slice sl_list (pv 2) (po_some (pv 4)) po_none)))
  (pss_cons (ps_set (i := 6) sc_law_refuses.nd rfl (Or.inl rfl) (pe_call (ok_law_pick A) (hr.mono (by omega)) rfl A.law_pick.m A.law_pick.F.kp A.law_pick.b .nil pass0 (pa_cons (pv 0) (pa_cons (pe_lst (pa_cons pe_non (pa_cons (pe_callTy call_tuple_of (by rfl) A.T.tuple (by decide +kernel) (pa_cons (pv 2) pa_nil)) (pa_cons pe_int (pa_cons pe_str (pa_cons pe_dnewK (pa_cons (pe_tup pa_nil) pa_nil))))))) pa_nil))))
  (pss_cons (ps_set (i := 7) sc_law_refuses.nd rfl (Or.inl rfl) (pe_lst (pa_cons (pe_call (ok_law_asked A Z Z2) (hr.mono (by omega)) rfl A.law_asked.m A.law_asked.F.kp A.law_asked.b .nil pass0 (pa_cons (pv 3) (pa_cons (pe_callTy call_list_of (by rfl) A.T.list (by decide +kernel) (pa_cons (pv 2) pa_nil)) pa_nil))) (pa_cons (pe_call (ok_law_asked A Z Z2) (hr.mono (by omega)) rfl A.law_asked.m A.law_asked.F.kp A.law_asked.b .nil pass0 (pa_cons (pv 3) (pa_cons (pv 5) pa_nil))) (pa_cons (pe_call (ok_law_asked A Z Z2) (hr.mono (by omega)) rfl A.law_asked.m A.law_asked.F.kp A.law_asked.b .nil pass0 (pa_cons (pv 1) (pa_cons (pv 5) pa_nil))) (pa_cons (pe_call (ok_law_asked A Z Z2) (hr.mono (by omega)) rfl A.law_asked.m A.law_asked.F.kp A.law_asked.b .nil pass0 (pa_cons (pv 1) (pa_cons (pv 6) pa_nil))) pa_nil))))))
  (pss_one (ps_ret (pe_call (ok_law_same A) (hr.mono (by omega)) rfl A.law_same.m A.law_same.F.kp A.law_same.b .nil pass0 (pa_cons (pv 7) (pa_cons (pe_lst (pa_cons (pe_tup (pa_cons pe_str (pa_cons pe_str pa_nil))) (pa_cons (pe_tup (pa_cons pe_str (pa_cons pe_str pa_nil))) (pa_cons (pe_tup (pa_cons pe_str (pa_cons pe_str pa_nil))) (pa_cons (pe_tup (pa_cons pe_str (pa_cons pe_str pa_nil))) pa_nil))))) pa_nil)))))))))), ?_⟩
    have sM : ∀ b ∈ [s], b ∈ M := by simp [ms]
    have Ss : S ∉ [s] := fun z => SM (sM _ z)
    obtain ⟨rowss, hds, hg⟩ := setv_ds hx
    have hrl := hds.len
    rw [List.length_map] at hrl
    walk_at "rd"
    refine ⟨s, 90, M, rfl, hs, by decide, by decide, fun d1 H1 x0 x1 hs1 a1 => ?_⟩
    walk_at "rd"
    refine ⟨s, 9, M, rfl, hs1, by decide, by decide, fun d2 H2 y0 y1 hs2 a2 => ?_⟩
    walk_at "rd"
    have al2 : ∀ b ∈ M, H2 b ≠ none := alloc_adv al (a1.trans a2) (by simpa using hs2.here)
    refine ⟨by show 1 ≤ sizeLine; decide, fun p1 n1 => ?_⟩
    have b1 := Adv.new (M := []) (o := .tup [.int (n : Nat)]) n1
    walk_at "rd"
    refine ⟨by show 1 ≤ sizeLine; decide, fun p2 n2 => ?_⟩
    have b2 := Adv.new (M := []) (o := .lst [.int (n : Nat)]) n2
    walk_at "rd"
    refine ⟨by show 9 ≤ sizeLine; decide, fun p3 n3 => ?_⟩
    have b3 := Adv.new (M := []) (o := .lst [.int (-1), .int 13, .int (13 + d1), .int (-2 - d2), .non, .bl true, .str "3", .ref p1, .ref p2]) n3
    walk_at "rd"
    have b123 := (b1.trans b2).trans b3
    have i1 : Is M _ (.tuple [.int (n : Nat)]) (.ref p1) := (Is.tup upd_same (not_mem_new al2 n1) (.cons .int .nil) : Is M (upd H2 p1 (.tup [.int (n : Nat)])) (.tuple [.int (n : Nat)]) (.ref p1)).adv (Adv.nil (b2.trans b3))
    have i2 : Is M _ (.list [.int (n : Nat)]) (.ref p2) := (Is.lst upd_same (not_mem_new (alloc_adv al2 b1 (by simp)) n2) (.cons .int .nil) : Is M (upd (upd H2 p1 (.tup [.int (n : Nat)])) p2 (.lst [.int (n : Nat)])) (.list [.int (n : Nat)]) (.ref p2)).adv (Adv.nil b3)
    refine ⟨s, p3, _, M, rfl, hs2.same b123, .inl upd_same, fun z => alloc_adv al2 (b1.trans b2) (by simp) p3 (by rw [z]; exact ms) n3, by simp, by simp, fun bv H3 hb hs3 a3 => ?_⟩
    have al3 : ∀ b ∈ M, H3 b ≠ none := alloc_adv (alloc_adv al2 b123 (by simp)) a3 (by simpa using hs3.here)
    obtain ⟨bd, ib, nb⟩ : ∃ bd, Is M H3 bd bv ∧ isNum 0 12 bd = false := by
      have nI : ∀ i : Int, (i < 0 ∨ 12 < i) → isNum 0 12 (.int i) = false := fun i h => by
        show (decide (0 ≤ i) && decide (i ≤ 12)) = false
        rcases h with h | h
        · rw [decide_eq_false (by omega : ¬ 0 ≤ i), Bool.false_and]
        · rw [decide_eq_false (by omega : ¬ i ≤ 12), Bool.and_false]
      simp only [List.mem_cons, List.not_mem_nil, or_false] at hb
      rcases hb with rfl | rfl | rfl | rfl | rfl | rfl | rfl | rfl | rfl
      · exact ⟨_, Is.int, nI _ (by omega)⟩
      · exact ⟨_, Is.int, nI _ (by omega)⟩
      · exact ⟨_, Is.int, nI _ (by omega)⟩
      · exact ⟨_, Is.int, nI _ (by omega)⟩
      · exact ⟨_, Is.non, rfl⟩
      · exact ⟨_, Is.bl, rfl⟩
      · exact ⟨_, Is.str, rfl⟩
      · exact ⟨_, i1.adv (a3.more sM), rfl⟩
      · exact ⟨_, i2.adv (a3.more sM), rfl⟩
    have a03 : Adv [s] H H3 := ((a1.trans a2).trans (Adv.nil b123)).trans a3
    have hS3 := a03 _ _ Ss hS
    walk_at "rd"
    refine ⟨s, (xs.length : Nat) + 1, M, rfl, hs3, by omega, by omega, fun at_ H4 w0 w1 hs4 a4 => ?_⟩
    have a04 := a03.trans a4
    have hS4 := a04 _ _ Ss hS
    have ib4 := ib.adv (a4.more sM)
    have al4 : ∀ b ∈ M, H4 b ≠ none := alloc_adv al a04 (by simpa using hs4.here)
    walk_at "rd"
    intro q1 m1
    have c1 := Adv.new (M := []) (o := .lst (cutV xs none (some at_))) m1
    walk_at "rd"
    refine ⟨⟨M, s, n, rfl, hs4.same c1, ms, alloc_adv al4 c1 (by simp), hn, fun wv wd H5 iw wbad wtz hs5 a5 => ?_⟩⟩
    walk_at "rd"
    refine ⟨by show 1 ≤ sizeLine; decide, fun q2 m2 => ?_⟩
    have c2 := Adv.new (M := []) (o := .lst [wv]) m2
    have q1s : q1 ∉ [s] := notin1 fun z => hs4.here (by rw [← z]; exact m1)
    have hq1 := c2.same _ _ (a5 _ _ q1s (upd_same (H := H4) (a := q1) (o := .lst (cutV xs none (some at_)))))
    have cl1 := cut_len xs none (some at_)
    have cl2 := cut_len xs (some at_) none
    refine rd_cat hq1 upd_same (by simp [sizeLine_eq]; omega) (fun q3 m3 => ?_)
    have c3 := Adv.new (M := []) (o := .lst (cutV xs none (some at_) ++ [wv])) m3
    have a05 := ((a04.trans (Adv.nil c1)).trans a5).trans (Adv.nil (c2.trans c3))
    have hS5 := a05 _ _ Ss hS
    have hs5' := hs5.same (c2.trans c3)
    have iw5 := iw.adv (Adv.nil (c2.trans c3))
    have ib5 := ((ib4.adv (Adv.nil c1)).adv (a5.more sM)).adv (Adv.nil (c2.trans c3))
    have hq3 := upd_same (H := upd H5 q2 (.lst [wv])) (a := q3) (o := .lst (cutV xs none (some at_) ++ [wv]))
    generalize (upd (upd H5 q2 (.lst [wv])) q3 (.lst (cutV xs none (some at_) ++ [wv]))) = H6 at a05 hS5 hs5' iw5 ib5 hq3 c3
    walk_at "rd"
    intro q4 m4
    have c4 := Adv.new (M := []) (o := .lst (cutV xs (some at_) none)) m4
    walk_at "rd"
    refine rd_cat (c4.same _ _ hq3) upd_same (by simp [sizeLine_eq]; omega) (fun sp m5 => ?_)
    have c5 := Adv.new (M := []) (o := .lst (cutV xs none (some at_) ++ [wv] ++ cutV xs (some at_) none)) m5
    have a06 := a05.trans (Adv.nil (c4.trans c5))
    have hS6 := a06 _ _ Ss hS
    have hs6 := hs5'.same (c4.trans c5)
    have al6 : ∀ b ∈ M, _ ≠ none := alloc_adv al a06 (by simpa using hs6.here)
    have al6' : ∀ b ∈ M, (upd H6 q4 (.lst (cutV xs (some at_) none))) b ≠ none := alloc_adv (alloc_adv al a05 (by simpa using hs5'.here)) c4 (by simp)
    have iw6 := iw5.adv (Adv.nil (c4.trans c5))
    have ib6 := ib5.adv (Adv.nil (c4.trans c5))
    obtain ⟨e1, he1, me1⟩ := cut_ds (hds.adv (a06.more sM)) none (some at_)
    obtain ⟨e2, he2, me2⟩ := cut_ds (hds.adv (a06.more sM)) (some at_) none
    have isp : Is M _ (.list (e1 ++ [wd] ++ e2)) (.ref sp) := Is.lst upd_same (not_mem_new al6' m5) ((he1.app (.one iw6)).app he2)
    have lsp : (e1 ++ [wd] ++ e2).length ≤ 300 := by
      have := he1.len
      have := he2.len
      simp
      omega
    have tsp : ∀ d ∈ e1 ++ [wd] ++ e2, tupZ d := fun d hd => by
      have row : d ∈ rowss.map rwD → tupZ d := fun h => by
        obtain ⟨r, hr, rfl⟩ := List.mem_map.mp h
        exact rwD_tz hn (hg r hr)
      rcases List.mem_append.mp hd with hd | hd
      · rcases List.mem_append.mp hd with hd | hd
        · exact row (me1 d hd)
        · rw [List.mem_singleton.mp hd]; exact wtz
      · exact row (me2 d hd)
    have bsp : setsB (n : Int) (.list (e1 ++ [wd] ++ e2)) = false := by
      show (e1 ++ [wd] ++ e2).all (rowsB n) = false
      rw [List.all_append, List.all_append, List.all_cons, wbad]
      simp
    generalize (upd (upd H6 q4 (.lst (cutV xs (some at_) none))) sp (.lst (cutV xs none (some at_) ++ [wv] ++ cutV xs (some at_) none))) = H7 at a06 hS6 hs6 al6 iw6 ib6 isp c5
    walk_at "rd"
    refine ⟨S, _, rfl, .inl ⟨SqL.of hS6, fun t nt => ?_⟩⟩
    have f1 := Adv.new (M := []) (o := .tup xs) nt
    walk_at "rd"
    intro p5 n5
    have f2 := Adv.new (M := []) (o := .dK []) n5
    walk_at "rd"
    refine ⟨Nat.zero_le _, fun p6 n6 => ?_⟩
    have f3 := Adv.new (M := []) (o := .tup []) n6
    walk_at "rd"
    refine ⟨by show 6 ≤ sizeLine; decide, fun p7 n7 => ?_⟩
    have f4 := Adv.new (M := []) (o := .lst [.non, .ref t, .int 0, .str "", .ref p5, .ref p6]) n7
    walk_at "rd"
    have f14 := ((f1.trans f2).trans f3).trans f4
    have hds7 := hds.adv (a06.more sM)
    have al7a := alloc_adv al6 f1 (by simp)
    have al7b := alloc_adv al7a f2 (by simp)
    have al7c := alloc_adv al7b f3 (by simp)
    have it : Is M _ (.tuple (rowss.map rwD)) (.ref t) := (Is.tup upd_same (not_mem_new al6 nt) (hds7.adv (Adv.nil f1)) : Is M (upd H7 t (.tup xs)) (.tuple (rowss.map rwD)) (.ref t)).adv (Adv.nil ((f2.trans f3).trans f4))
    have i5 : Is M _ (.dict []) (.ref p5) := (Is.dic upd_same (not_mem_new al7a n5) : Is M (upd (upd H7 t (.tup xs)) p5 (.dK [])) (.dict []) (.ref p5)).adv (Adv.nil (f3.trans f4))
    have i6 : Is M _ (.tuple []) (.ref p6) := (Is.tup upd_same (not_mem_new al7b n6) .nil : Is M (upd (upd (upd H7 t (.tup xs)) p5 (.dK [])) p6 (.tup [])) (.tuple []) (.ref p6)).adv (Adv.nil f4)
    refine ⟨s, p7, _, M, rfl, hs6.same f14, .inl upd_same, fun z => al7c p7 (by rw [z]; exact ms) n7, by simp, by simp, fun ov H8 ho hs8 a8 => ?_⟩
    obtain ⟨od, io, no⟩ : ∃ od, Is M H8 od ov ∧ ∀ ds, od ≠ .list ds := by
      simp only [List.mem_cons, List.not_mem_nil, or_false] at ho
      rcases ho with rfl | rfl | rfl | rfl | rfl | rfl
      · exact ⟨_, Is.non, fun _ => nofun⟩
      · exact ⟨_, it.adv (a8.more sM), fun _ => nofun⟩
      · exact ⟨_, Is.int, fun _ => nofun⟩
      · exact ⟨_, Is.str, fun _ => nofun⟩
      · exact ⟨_, i5.adv (a8.more sM), fun _ => nofun⟩
      · exact ⟨_, i6.adv (a8.more sM), fun _ => nofun⟩
    have g8 := (Adv.nil (N := [s]) f14).trans a8
    have a08 := a06.trans g8
    have hS8 := a08 _ _ Ss hS
    have al8 : ∀ b ∈ M, H8 b ≠ none := alloc_adv al a08 (by simpa using hs8.here)
    have hds8 := hds.adv (a08.more sM)
    have ib8 := ib6.adv (g8.more sM)
    have isp8 := isp.adv (g8.more sM)
    have nn : isNum 0 12 (.int (n : Int)) = true := by
      show (decide (0 ≤ (n : Int)) && decide ((n : Int) ≤ 12)) = true
      rw [decide_eq_true (by omega), decide_eq_true (by omega)]; rfl
    have zsp : ∀ ds, PyData.list (e1 ++ [wd] ++ e2) = .list ds → ds.length ≤ 100000 ∧ ∀ d ∈ ds, tupZ d := fun ds e => by
      injection e with e
      subst e
      exact ⟨by omega, tsp⟩
    have nil_ : ∀ b ∈ ([] : List Addr), b ∈ M := by simp
    walk_at "rd"
    intro l nl
    have g1 := Adv.new (M := []) (o := .lst xs) nl
    refine ⟨⟨M, bv, .ref l, bd, .list (rowss.map rwD), "many", rfl, alloc_adv al8 g1 (by simp), (ib8.adv (Adv.nil g1)).less nil_, (Is.lst upd_same (not_mem_new al8 nl) (hds8.adv (Adv.nil g1))).less nil_, fun ds e => ?_, .inl ⟨nb, rfl⟩, fun v1 H9 iv1 a9 => ?_⟩⟩
    · injection e with e
      subst e
      refine ⟨by rw [List.length_map]; omega, fun d hd => ?_⟩
      obtain ⟨r, hr, rfl⟩ := List.mem_map.mp hd
      exact rwD_tz hn (hg r hr)
    have g9 := g1.trans a9
    walk_at "rd"
    refine ⟨⟨M, bv, .ref sp, bd, .list (e1 ++ [wd] ++ e2), "many", rfl, alloc_adv al8 g9 (by simp), (ib8.adv (Adv.nil g9)).less nil_, (isp8.adv (Adv.nil g9)).less nil_, zsp, .inl ⟨nb, rfl⟩, fun v2 H10 iv2 a10 => ?_⟩⟩
    have g10 := g9.trans a10
    walk_at "rd"
    refine ⟨⟨M, .int (n : Nat), .ref sp, .int (n : Nat), .list (e1 ++ [wd] ++ e2), "sets", rfl, alloc_adv al8 g10 (by simp), Is.int, (isp8.adv (Adv.nil g10)).less nil_, zsp, .inr ⟨n, rfl, nn, bsp, rfl⟩, fun v3 H11 iv3 a11 => ?_⟩⟩
    have g11 := g10.trans a11
    walk_at "rd"
    refine ⟨⟨M, .int (n : Nat), ov, .int (n : Nat), od, "sets", rfl, alloc_adv al8 g11 (by simp), Is.int, (io.adv (Adv.nil g11)).less nil_, fun ds e => absurd e (no ds), .inr ⟨n, rfl, nn, ?_, rfl⟩, fun v4 H12 iv4 a12 => ?_⟩⟩
    · cases od with
      | list ds => exact absurd rfl (no ds)
      | _ => rfl
    have g12 := g11.trans a12
    have al12 := alloc_adv al8 g12 (by simp)
    walk_at "rd"
    refine ⟨by show 4 ≤ sizeLine; decide, fun L nL => ?_⟩
    have k0 := Adv.new (M := []) (o := .lst [v1, v2, v3, v4]) nL
    have iL : Is M _ (.list [.tuple [.str "BadValue", .str "many"], .tuple [.str "BadValue", .str "many"], .tuple [.str "BadValue", .str "sets"], .tuple [.str "BadValue", .str "sets"]]) (.ref L) :=
      Is.lst upd_same (not_mem_new al12 nL) (.cons (iv1.adv (Adv.nil (((a10.trans a11).trans a12).trans k0))) (.cons (iv2.adv (Adv.nil ((a11.trans a12).trans k0))) (.cons (iv3.adv (Adv.nil (a12.trans k0))) (.cons (iv4.adv (Adv.nil k0)) .nil))))
    have alL := alloc_adv al12 k0 (by simp)
    generalize (upd H12 L (.lst [v1, v2, v3, v4])) = H13 at iL alL
    walk_at "rd"
    refine ⟨by show 2 ≤ sizeLine; decide, fun t1 j1 => ?_⟩
    have k1 := Adv.new (M := []) (o := .tup [.str "BadValue", .str "many"]) j1
    have al1 := alloc_adv alL k1 (by simp)
    walk_at "rd"
    refine ⟨by show 2 ≤ sizeLine; decide, fun t2 j2 => ?_⟩
    have k2 := Adv.new (M := []) (o := .tup [.str "BadValue", .str "many"]) j2
    have al2' := alloc_adv al1 k2 (by simp)
    walk_at "rd"
    refine ⟨by show 2 ≤ sizeLine; decide, fun t3 j3 => ?_⟩
    have k3 := Adv.new (M := []) (o := .tup [.str "BadValue", .str "sets"]) j3
    have al3' := alloc_adv al2' k3 (by simp)
    walk_at "rd"
    refine ⟨by show 2 ≤ sizeLine; decide, fun t4 j4 => ?_⟩
    have k4 := Adv.new (M := []) (o := .tup [.str "BadValue", .str "sets"]) j4
    have al4' := alloc_adv al3' k4 (by simp)
    walk_at "rd"
    refine ⟨by show 4 ≤ sizeLine; decide, fun D j5 => ?_⟩
    have k5 := Adv.new (M := []) (o := .lst [.ref t1, .ref t2, .ref t3, .ref t4]) j5
    have tp : ∀ {H' H'' : Hp} {t : Addr} {x y : Str}, H' t = none → (∀ b ∈ M, H' b ≠ none) → Adv [] (upd H' t (.tup [.str x, .str y])) H'' → Is M H'' (.tuple [.str x, .str y]) (.ref t) := fun n a h => (Is.tup upd_same (not_mem_new a n) (.cons .str (.cons .str .nil))).adv (Adv.nil h)
    have iD := Is.lst (upd_same (a := D) (o := .lst [.ref t1, .ref t2, .ref t3, .ref t4])) (not_mem_new al4' j5) (.cons (tp j1 alL (((k2.trans k3).trans k4).trans k5)) (.cons (tp j2 al1 ((k3.trans k4).trans k5)) (.cons (tp j3 al2' (k4.trans k5)) (.cons (tp j4 al3' k5) .nil))))
    refine ⟨.ref L, .ref D, _, rfl, (iL.adv (Adv.nil ((((k1.trans k2).trans k3).trans k4).trans k5))).less nil_, iD.less nil_, by simp only [sz_lst, sz_tup, szL_cons, szL_nil, sz1_str]; decide, fun H' a' => ?_⟩
    walk_at "rd"
    exact q _
end
end K89

set_option Elab.async false
set_option linter.all false
set_option maxRecDepth 100000
set_option maxHeartbeats 400000
namespace K89
open PySem PySem.Spec PyProof.Rows L2 LL
open C8 (pss_cut)
local macro_rules | `(tactic| walk_at "ne") => `(tactic| first | assumption | (apply Ne.symm; assumption) | exact ne_of_none (by walk_at "hp") (by assumption) | exact (ne_of_none (by walk_at "hp") (by assumption)).symm)
local macro_rules | `(tactic| walk_at "nm") => `(tactic| first | assumption | exact notin0 | exact notin1 (by walk_at "ne") | exact notin2 (by walk_at "ne") (by walk_at "ne"))
local macro_rules | `(tactic| walk_at "hp") => `(tactic| first | assumption | exact upd_same | (refine Eq.trans (upd_ne ?ne) ?hh; (case hh => walk_at "hp"); (case ne => walk_at "ne")) | (refine Adv.get' (by assumption) ?hh ?nn; (case hh => walk_at "hp"); (case nn => walk_at "nm")))
local macro_rules | `(tactic| walk_at "tp") => `(tactic| first | assumption | exact Tp.adv (by walk_at "tp") (by assumption) | exact Tp.adv (by walk_at "tp") (Adv.nil (by assumption)))
local macro_rules | `(tactic| walk_at "sq") => `(tactic| first | assumption | exact Tp.sq (by assumption) (by walk_at "tp") | exact SqT.of (by walk_at "hp"))
local macro_rules | `(tactic| walk_at "at") => `(tactic| first | exact atI_nat (j := 0) rfl | exact atI_nat (j := 1) rfl | exact atI_nat (j := 2) rfl | exact atI_nat (j := 3) rfl | exact atI_nat (by assumption) | (rw [Int.zero_add]; exact atI_nat (by assumption)))
local macro_rules | `(tactic| walk_at "bb") => `(tactic| first | assumption | decide | exact rfl)
local macro_rules | `(tactic| walk_at "ci") => `(tactic| first | omega | (dsimp only; omega) | (unfold CDiv; omega) | (unfold CMul; omega))
local macro_rules | `(tactic| walk_at "rd1") => `(tactic| first
  | with_reducible refine rd_c ?_
  | ((with_reducible refine' rd_var ?rh ?_); (case rh => exact rfl))
  | with_reducible refine rd_op ?_
  | with_reducible refine rd_seq ?_
  | with_reducible refine rd_asg ?_
  | with_reducible refine rd_gname ?_
  | with_reducible refine rd_ifS ?_
  | with_reducible refine rd_test ?_
  | with_reducible refine rd_tB ?_
  | with_reducible refine rd_blP ?_
  | ((with_reducible refine' iteY ?rh ?_); (case rh => walk_at "bb"))
  | ((with_reducible refine' iteN ?rh ?_); (case rh => walk_at "bb"))
  | with_reducible refine rd_ret ?_
  | with_reducible refine rd_nx ?_
  | ((with_reducible refine' rd_eq ?rh ?_); (case rh => exact rfl))
  | ((with_reducible refine' rd_ne ?rh ?_); (case rh => exact rfl))
  | with_reducible refine rd_add ?_
  | with_reducible refine rd_sub ?_
  | with_reducible refine rd_i0 ?_
  | with_reducible refine rd_and ?_
  | with_reducible refine rd_or ?_
  | with_reducible refine rd_not ?_
  | with_reducible refine rd_andV ?_
  | with_reducible refine rd_orV ?_
  | with_reducible refine rd_notV ?_
  | with_reducible refine rd_ifE ?_
  | with_reducible refine rd_isN ?_
  | with_reducible refine rd_notN ?_
  | with_reducible refine rd_cons ?_
  | with_reducible refine rd_nil ?_
  | with_reducible refine rd_tup ?_
  | with_reducible refine rd_lst ?_
  | with_reducible refine rd_call ?_
  | with_reducible refine rd_cb ?_
  | with_reducible refine rd_meth ?_
  | with_reducible refine rd_callS ?_
  | with_reducible refine rd_make ?_
  | with_reducible refine rd_rfl ?_
  | with_reducible refine rd_fld ?_
  | with_reducible refine rd_drop ?_
  | with_reducible refine rd_gsub ?_
  | with_reducible refine rd_gcons ?_
  | with_reducible refine rd_gnil ?_
  | with_reducible refine rd_par ?_
  | with_reducible refine rd_two ?_
  | with_reducible refine rd_par3 ?_
  | with_reducible refine rd_three ?_
  | with_reducible refine rd_int1 ?_
  | ((with_reducible refine' rd_i ?rh ?_); (case rh => walk_at "ci"))
  | with_reducible refine rd_part ?_
  | with_reducible refine rd_nopart ?_
  | with_reducible refine rd_int ?_
  | with_reducible refine rd_sl ?_
  | with_reducible refine rd_bm ?_
  | with_reducible refine rd_bm0 ?_
  | with_reducible refine rd_dgetT ?_
  | with_reducible refine rd_din ?_
  | with_reducible refine rd_dnin ?_
  | with_reducible refine rd_un ?_
  | ((with_reducible refine' rd_ixL ?rh ?re ?_); (case rh => walk_at "hp"); (case re => walk_at "at"))
  | ((with_reducible refine' rd_ixT ?rh ?re ?_); (case rh => walk_at "sq"); (case re => walk_at "at"))
  | ((with_reducible refine' rd_lenT ?rh ?_); (case rh => walk_at "sq"))
  | ((with_reducible refine' rd_tyL ?rh ?_); (case rh => walk_at "hp"))
  | ((with_reducible refine' rd_len ?rh ?_); (case rh => walk_at "hp"))
  | with_reducible refine rd_u ?_
  | ((with_reducible refine' rd_slL ?rh ?_); (case rh => walk_at "hp"))
  | with_reducible refine rd_for ?_
  | with_reducible refine rd_rng1 ?_
  | with_reducible refine rd_rng2 ?_
  | with_reducible refine rd_ints1 ?_
  | with_reducible refine rd_ints2 ?_
  | with_reducible refine rd_retN ?_)
local macro_rules | `(tactic| walk_at "rd") => `(tactic| repeat walk_at "rd1")
section
variable [KW]
variable {P : Program} {w : World} {K : PySem.W.Frag} {mg : Str → Option Value} {base : Heap}
theorem leastN_nz (T : List Nat) : 2 ≤ (leastN T).length → ∀ x ∈ leastN T, x ≠ 0 := fun h2 x hx e => by
  subst e
  have z : ∀ y ∈ leastN T, y < 1 := fun y hy => by
    have := (leastN_mem.mp hy).2 0 (leastN_mem.mp hx).1 (Nat.zero_and y)
    omega
  have := nodup_lt (asc_nodup (leastN_asc T)) z
  omega
theorem setsD_sz (L : List Nat) (h : L.length ≤ 5000) : sz (.list (setsD L)) ≤ 1000000 := by
  have h1 : szL (setsD L) ≤ 13 * (setsD L).length := szL_le fun d hd => by
    unfold setsD at hd
    obtain ⟨x, _, rfl⟩ := List.mem_map.mp hd
    unfold setD
    rw [sz_tup, nD_sz]
    have := bitsL_len 12 x
    omega
  have h2 : (setsD L).length = L.length := by
    unfold setsD
    rw [List.length_map, (srtB_perm L).length_eq]
  rw [sz_lst]
  omega
theorem rows_sz {n : Nat} {rowss : List (List Nat)} (hn : n ≤ 12) (hg : ∀ r ∈ rowss, GoodR n r) (hl : rowss.length ≤ 100) : sz (.list (rowss.map rwD)) ≤ 1000000 := by
  have h1 : szL (rowss.map rwD) ≤ 13 * (rowss.map rwD).length := szL_le fun d hd => by
    obtain ⟨r, hr, rfl⟩ := List.mem_map.mp hd
    unfold rwD
    rw [sz_tup, nD_sz]
    have := (hg r hr).len
    omega
  rw [List.length_map] at h1
  rw [sz_lst]
  omega
theorem bits_good {n x : Nat} (hn : n ≤ 12) (h : x < 2 ^ n) : GoodR n (bitsL 12 x) := by
  rw [bitsL_up h hn]
  exact List.filter_sublist
theorem sets_good {n : Nat} {rowss : List (List Nat)} (hg : ∀ r ∈ rowss, GoodR n r) : setsB (n : Int) (.list (rowss.map rwD)) = true := by
  show (rowss.map rwD).all (rowsB n) = true
  rw [List.all_eq_true]
  intro d hd
  obtain ⟨r, hr, rfl⟩ := List.mem_map.mp hd
  exact good_rowsB (hg r hr)
theorem rows_zz {n : Nat} {rowss : List (List Nat)} (hn : n ≤ 12) (hg : ∀ r ∈ rowss, GoodR n r) (hl : rowss.length ≤ 100000) : ∀ ds, PyData.list (rowss.map rwD) = .list ds → ds.length ≤ 100000 ∧ ∀ d ∈ ds, tupZ d := fun ds e => by
  injection e with e
  subst e
  refine ⟨by rw [List.length_map]; exact hl, fun d hd => ?_⟩
  obtain ⟨r, hr, rfl⟩ := List.mem_map.mp hd
  exact rwD_tz hn (hg r hr)
/-- a right call of crossing -/
theorem go_cross {cV : Addr} {M : List Addr} {v2 : V} {H : Hp} {Q : VK} {n : Nat} {rowss : List (List Nat)} (al : ∀ b ∈ M, H b ≠ none) (hn : n ≤ 12) (hg : ∀ r ∈ rowss, GoodR n r) (hl : rowss.length ≤ 100000) (h2 : Is [] H (.list (rowss.map rwD)) v2)
    (q : ∀ p zs H', H p = none → H' p = some (.lst zs) → IsDs M H' (setsD (leastF n (rowss.map bitsN))) zs → Adv [] H H' → Q (.ref p) H') : spCross cV [.int (n : Nat), v2] H Q E0 := by
  have nn : isNum 0 12 (.int (n : Int)) = true := by
    show (decide (0 ≤ (n : Int)) && decide ((n : Int) ≤ 12)) = true
    rw [decide_eq_true (by omega), decide_eq_true (by omega)]; rfl
  refine ⟨_, _, rfl, ⟨M, .int (n : Nat), .list (rowss.map rwD), al, Is.int, h2, rows_zz hn hg hl, fun e => (by rw [nn] at e; cases e), fun i e0 e1 e2 => ?_, fun m rs e0 e1 e2 e3 e4 p zs H' np hp hz a => ?_⟩⟩
  · injection e0 with e0
    subst e0
    rw [sets_good hg] at e2
    cases e2
  · injection e0 with e0
    have em : n = m := by omega
    subst em
    have er : rowss.map bitsN = rs.map bitsN := by
      injection e2 with e2
      have inj : ∀ {a b : List (List Nat)}, a.map rwD = b.map (fun r => PyData.tuple (nD r)) → a = b := by
        intro a
        induction a with
        | nil => intro b h; cases b with
          | nil => rfl
          | cons _ _ => simp at h
        | cons x a ih => intro b h; cases b with
          | nil => simp at h
          | cons y b =>
            rw [List.map_cons, List.map_cons] at h
            injection h with h1 h2
            unfold rwD at h1
            injection h1 with h1
            have h1 := congrArg (List.map LL.intD) h1
            rw [nD_int, nD_int] at h1
            rw [cast_inj h1, ih h2]
      rw [inj e2]
    exact q p zs H' np hp (by rw [er]; exact hz) a
/-! ### law -/
def spLaw (K : PySem.W.Frag) : Sp := fun vs H Q _ => ∃ (a : Addr) (ns : List Int), vs = [.ref a] ∧ SqL K H a (ns.map V.int) ∧ ns.length ≤ 63 ∧ ∀ H', Q (.bl true) H'
theorem ok_law (A : All K mg w) (Z : Exs K mg) (Z2 : Er_BadValue Z) : FnOk P w K mg base CX0 14 A.law.f A.law.fd ["script"] (spLaw K) := by
  refine A.law.F.ok sc_law (fun vs H Q E h => ?_) (fun cdv Ar outer s0 H vs Q E hr h => ?_)
  · obtain ⟨a, ns, rfl, _⟩ := h
    rfl
  · obtain ⟨a, ns, rfl, hSc, hl, q⟩ := h
    refine ⟨_, (pss_cons (ps_set (i := 1) sc_law.nd rfl (Or.inl rfl) (pe_call (ok_law_stream A) (hr.mono (by omega)) rfl A.law_stream.m A.law_stream.F.kp A.law_stream.b .nil pass0 (pa_cons (pv 0) pa_nil)))
  (pss_cut (ps_set (i := 2) sc_law.nd rfl (Or.inl rfl) (pe_ifExp (pt_cmpR op_eq (pe_call (ok_law_next A) (hr.mono (by omega)) rfl A.law_next.m A.law_next.F.kp A.law_next.b .nil pass0 (pa_cons (pv 1) (pa_cons pe_int pa_nil))) pe_int (nomark _)) (pe_call (ok_law_from A) (hr.mono (by omega)) rfl A.law_from.m A.law_from.F.kp A.law_from.b .nil pass0 (pa_cons (pv 1) (pa_cons pe_int (pa_cons pe_int pa_nil)))) (pe_call (ok_law_next A) (hr.mono (by omega)) rfl A.law_next.m A.law_next.F.kp A.law_next.b .nil pass0 (pa_cons (pv 1) (pa_cons pe_int pa_nil)))))
  (pss_cons (ps_set (i := 3) sc_law.nd rfl (Or.inl rfl) (pe_call (ok_law_sets A) (hr.mono (by omega)) rfl A.law_sets.m A.law_sets.F.kp A.law_sets.b .nil pass0 (pa_cons (pv 1) (pa_cons (pv 2) pa_nil))))
  (pss_cons (ps_setLc (i := 5) (own := [("told", 4)]) (g := gName 4) rfl sc_law.nd rfl rfl (sw_true rfl rfl rfl (by decide +kernel)) (pi_list (pv 3)) (blkOk_by (own := [("told", 4)]) (N := ["script", "stream", "many", "sets", "told", "bits", "due", "passed"]) (sc := defScope s_law) (by decide +kernel)) (fun _ _ _ _ _ => pg_name (i := 4) sc_law.nd rfl (Or.inl rfl)) (fun _ _ _ _ _ => pts_nil) (fun _ _ _ _ _ => (pe_call (ok_law_bits A) (hr.mono (by omega)) rfl A.law_bits.m A.law_bits.F.kp A.law_bits.b .nil pass0 (pa_cons (pv 4) pa_nil))))
  (pss_cons (ps_set (i := 6) sc_law.nd rfl (Or.inl rfl) (pe_call (ok_law_tuples A) (hr.mono (by omega)) rfl A.law_tuples.m A.law_tuples.F.kp A.law_tuples.b .nil pass0 (pa_cons (pe_call (ok_law_crossing A) (hr.mono (by omega)) rfl A.law_crossing.m A.law_crossing.F.kp A.law_crossing.b .nil pass0 (pa_cons (pv 5) pa_nil)) pa_nil)))
  (pss_cons (ps_set (i := 7) sc_law.nd rfl (Or.inl rfl) (pe_callTy call_list_of (by rfl) A.T.list (by decide +kernel) (pa_cons (pv 3) pa_nil)))
  (pss_cons (ps_set (i := 4) sc_law.nd rfl (Or.inl rfl) (pe_call (ok_crossing A Z Z2) (hr.mono (by omega)) rfl A.crossing.m A.crossing.F.kp A.crossing.b .nil passN0 (pa_cons (pv 2) (pa_cons (pv 7) pa_nil))))
  (pss_cons (ps_if (PW.pt (pw_or (pt_not (pt_val (pe_call (ok_law_same A) (hr.mono (by omega)) rfl A.law_same.m A.law_same.F.kp A.law_same.b .nil pass0 (pa_cons (pv 4) (pa_cons (pv 6) pa_nil))))) (pw_or1 (pt_not (pt_val (pe_call (ok_law_same A) (hr.mono (by omega)) rfl A.law_same.m A.law_same.F.kp A.law_same.b .nil pass0 (pa_cons (pv 7) (pa_cons (pv 3) pa_nil))))))))
    (pss_one (ps_ret pe_bl))
    pss_nil)
  (pss_cons (ps_expr (pe_bm PySem.F.plainAttrs_list PySem.F.slot_list_append PySem.F.type_list_append mt_append (pv 4) (pa_cons (pe_tup (pa_cons pe_int pa_nil)) pa_nil)))
  (pss_cut (ps_if (pt_cmpR op_gt (pe_callB call_len_seq (by rfl) A.T.len PySem.boot_len (pa_cons (pv 6) pa_nil)) pe_int (nomark _))
    (pss_one (ps_asg (pe_tup (pa_cons (pv 2) pa_nil)) (pg_sub (pv 4) pe_int set_list)))
    pss_nil)
  (pss_cons (ps_if (PW.pt (pw_or (pt_not (pt_val (pe_call (ok_law_same A) (hr.mono (by omega)) rfl A.law_same.m A.law_same.F.kp A.law_same.b .nil pass0 (pa_cons (pe_call (ok_crossing A Z Z2) (hr.mono (by omega)) rfl A.crossing.m A.crossing.F.kp A.crossing.b .nil passN0 (pa_cons (pv 2) (pa_cons (pv 7) pa_nil))) (pa_cons (pv 6) pa_nil))))) (pw_or1 (pt_not (pt_val (pe_call (ok_law_same A) (hr.mono (by omega)) rfl A.law_same.m A.law_same.F.kp A.law_same.b .nil pass0 (pa_cons (pe_call (ok_crossing A Z Z2) (hr.mono (by omega)) rfl A.crossing.m A.crossing.F.kp A.crossing.b .nil passN0 (pa_cons (pv 2) (pa_cons (pe_callTy call_list_of (by rfl) A.T.list (by decide +kernel) (pa_cons (pv 6) pa_nil)) pa_nil))) (pa_cons (pe_call (ok_law_tuples A) (hr.mono (by omega)) rfl A.law_tuples.m A.law_tuples.F.kp A.law_tuples.b .nil pass0 (pa_cons (pe_call (ok_law_least A) (hr.mono (by omega)) rfl A.law_least.m A.law_least.F.kp A.law_least.b .nil pass0 (pa_cons (pv 5) pa_nil)) pa_nil)) pa_nil))))))))
    (pss_one (ps_ret pe_bl))
    pss_nil)
  (pss_one (ps_ret (pe_call (ok_law_refuses A Z Z2) (hr.mono (by omega)) rfl A.law_refuses.m A.law_refuses.F.kp A.law_refuses.b .nil pass0 (pa_cons (pv 1) (pa_cons (pv 2) (pa_cons (pv 3) pa_nil))))))))))))))))), ?_⟩
    walk_at "rd"
    refine ⟨a, ns, rfl, hSc, hl, fun s H1 ns1 hs1 a1 => ?_⟩
    walk_at "rd"
    have hss : StrAt [s] H1 s := by
      obtain ⟨l, ms, c, k, h1, h2, h3, h4, h5⟩ := hs1
      refine ⟨l, ms, c, k, h1, h2, h3, h4, fun z => ?_⟩
      have e : l = s := by simpa using z
      exact ne_of h2 h1 (ne_lst_ints).symm e
    have alS : ∀ {H' : Hp}, StrAt [s] H' s → ∀ b ∈ [s], H' b ≠ none := fun h b hb => by rw [List.mem_singleton.mp hb]; exact h.here
    refine ⟨fun σ' H' => ∃ n : Nat, σ' = [some (.ref a), some (.ref s), some (.int (n : Nat)), none, none, none, none, none] ∧ n ≤ 12 ∧ StrAt [s] H' s, ?_, ?_⟩
    · walk_at "rd"
      refine ⟨s, 25, [s], rfl, hss, by decide, by decide, fun d H2 d0 d1 hs2 a2 => ?_⟩
      walk_at "rd"
      refine iteB (fun e => ?_) (fun e => ?_)
      · walk_at "rd"
        refine ⟨s, 8, 12, [s], rfl, hs2, by decide, by decide, fun c H3 c0 c1 hs3 a3 => ?_⟩
        walk_at "rd"
        exact ⟨c.toNat, by rw [Int.toNat_of_nonneg (by omega)]; rfl, by omega, hs3⟩
      · walk_at "rd"
        refine ⟨s, 8, [s], rfl, hs2, by decide, by decide, fun c H3 c0 c1 hs3 a3 => ?_⟩
        walk_at "rd"
        exact ⟨c.toNat, by rw [Int.toNat_of_nonneg (by omega)]; rfl, by omega, hs3⟩
    · rintro σ' H2 ⟨n, rfl, hn, hs2⟩
      walk_at "rd"
      refine ⟨⟨[s], s, n, rfl, hs2, by simp, alS hs2, hn, fun S xs H3 nS hS hl3 hx hs3 a3 => ?_⟩⟩
      have hx' : ∀ x ∈ xs, SetV [s] H3 n x := fun x h => (hx x h).less (by simp +contextual)
      obtain ⟨rowss, hds, hg⟩ := setv_ds hx'
      have hrl := hds.len
      rw [List.length_map] at hrl
      have Ss : S ∉ [s] := notin1 fun z => hs2.here (by rw [← z]; exact nS)
      walk_at "rd"
      refine ⟨_, rfl, S, rfl, ⟨_, SqL.of hS⟩, fun D nD => ?_⟩
      refine lc_mapL (K := K) (a := S) (xs := xs) (fun i => V.int (bitsN (rowss.getD i []) : Nat)) nD (SqL.of hS) (by omega) ?_ ?_
      · intro i x H' acc R hxi aH hD k
        obtain ⟨dx, hdx, hisx⟩ := hds.getV hxi
        rw [List.getElem?_map, Option.map_eq_some_iff] at hdx
        obtain ⟨r, hr1, rfl⟩ := hdx
        have ed : rowss.getD i [] = r := by rw [List.getD_eq_getElem?_getD, hr1]; rfl
        obtain ⟨t, us, rfl, ht, hu⟩ := hisx.tupE
        rw [nD_of hu] at ht
        refine ⟨rfl, ?_⟩
        walk_at "rd"
        refine ⟨t, r, rfl, (ht.less (by simp)).adv aH, fun k hk => by have := (hg r (List.mem_of_getElem? hr1)).lt k hk; omega, ?_⟩
        have k' := k H' hD aH
        rw [ed] at k'
        exact k'
      · intro H4 a4 hD
        have eT : (List.range xs.length).map (fun i => V.int (bitsN (rowss.getD i []) : Nat)) = nVl (rowss.map bitsN) := by
          rw [hrl]
          unfold nVl
          rw [List.map_map]
          apply List.ext_getElem?
          intro i
          rw [List.getElem?_map, List.getElem?_map]
          by_cases hi : i < rowss.length
          · rw [List.getElem?_range hi, List.getElem?_eq_getElem hi]
            simp [hi]
          · rw [List.getElem?_eq_none (by simpa using hi), List.getElem?_eq_none (by omega)]
            rfl
        rw [eT] at hD
        have hT : ∀ t ∈ rowss.map bitsN, t < 2 ^ n := fun t ht => by
          obtain ⟨r, hr2, rfl⟩ := List.mem_map.mp ht
          exact bitsN_lt (hg r hr2).lt
        have h2n : 2 ^ n ≤ 2 ^ 12 := Nat.pow_le_pow_right (by decide) hn
        have hT12 : ∀ t ∈ rowss.map bitsN, t < 2 ^ 12 := fun t ht => Nat.lt_of_lt_of_le (hT t ht) h2n
        have tl : (rowss.map bitsN).length ≤ 30 := by rw [List.length_map]; omega
        generalize hTT : rowss.map bitsN = T at hD hT hT12 tl
        have hmem := crossF_mem (n := 12) T hT12
        have hasc := crossF_asc (n := 12) T
        have hlt : ∀ x ∈ crossF 12 T, x < 2 ^ n := fun x hx => mn_lt hT ((hmem x).mp hx)
        have hlt12 : ∀ x ∈ crossF 12 T, x < 2 ^ 12 := fun x hx => Nat.lt_of_lt_of_le (hlt x hx) h2n
        have hlen : (crossF 12 T).length ≤ 4096 := nodup_lt (asc_nodup hasc) hlt12
        have hlc : leastF n T = crossF 12 T := least_cross hn hT
        generalize hL : crossF 12 T = L at hmem hasc hlt hlt12 hlen hlc
        have hs4 := hs3.less (N := [s]) (by simp) |>.same a4
        walk_at "rd"
        refine ⟨D, T, rfl, hD, by omega, hT12, fun F H5 nF hF a5 => ?_⟩
        rw [hL] at hF
        have hs5 := hs4.same a5
        walk_at "rd"
        refine ⟨[s], F, L, rfl, alS hs5, hF, by omega, hlt12, anti_nz (asc_nodup hasc) (fun x hx => (hmem x).mp hx), fun p zs H6 np hp hz a6 => ?_⟩
        have a36 := (a4.trans a5).trans a6
        have hS6 := a36.same _ _ hS
        have hs6 := hs5.same a6
        walk_at "rd"
        intro pl npl
        have b1 := Adv.new (M := []) (o := .lst xs) npl
        have hpl := upd_same (H := H6) (a := pl) (o := .lst xs)
        generalize (upd H6 pl (.lst xs)) = HB at b1 hpl
        have hsB := hs6.same b1
        have hSB := b1.same _ _ hS6
        have hpB := b1.same _ _ hp
        have hDB := ((a5.trans a6).trans b1).same _ _ hD
        have hzB := hz.adv (Adv.nil b1)
        have hdsB := hds.adv (Adv.nil (a36.trans b1))
        have ps : p ∉ [s] := notin1 fun z => hs5.here (by rw [← z]; exact np)
        have pls : pl ∉ [s] := notin1 fun z => hs6.here (by rw [← z]; exact npl)
        have isPl : Is [s] HB (.list (rowss.map rwD)) (.ref pl) := Is.lst hpl pls hdsB
        have isS : Is [s] HB (.list (rowss.map rwD)) (.ref S) := Is.lst hSB Ss hdsB
        have isP : Is [s] HB (.list (setsD L)) (.ref p) := Is.lst hpB ps hzB
        have nil_ : ∀ b ∈ ([] : List Addr), b ∈ [s] := by simp
        have hr100 : rowss.length ≤ 100000 := by omega
        walk_at "rd"
        refine go_cross (M := [s]) (alS hsB) hn hg hr100 (isPl.less nil_) (fun p2 zs2 H7 np2 hp2 hz2 a7 => ?_)
        rw [hTT, hlc] at hz2
        have p2s : p2 ∉ [s] := notin1 fun z => hsB.here (by rw [← z]; exact np2)
        walk_at "rd"
        refine ⟨.ref p2, .ref p, _, rfl, (Is.lst hp2 p2s hz2).less nil_, (isP.adv (Adv.nil a7)).less nil_, setsD_sz L (by omega), fun H8 a8 => ?_⟩
        walk_at "rd"
        refine ⟨.ref pl, .ref S, _, rfl, (isPl.adv (Adv.nil (a7.trans a8))).less nil_, (isS.adv (Adv.nil (a7.trans a8))).less nil_, rows_sz hn hg (by omega), fun H9 a9 => ?_⟩
        walk_at "rd"
        refine ⟨by show 1 ≤ sizeLine; decide, fun u nu => ?_⟩
        have c1 := Adv.new (M := []) (o := .tup [.int 0]) nu
        have a79 := (((a7.trans a8).trans a9).trans c1)
        have hp2' := ((a8.trans a9).trans c1).same _ _ hp2
        have zl2 : zs2.length ≤ 4096 := by
          rw [hz2.len]
          unfold setsD
          rw [List.length_map, (srtB_perm L).length_eq]
          exact hlen
        walk_at "rd"
        refine rd_app hp2' (by rw [sizeLine_eq]; omega) ?_
        walk_at "rd"
        refine ⟨fun σ' H' => σ' = [some (.ref a), some (.ref s), some (.int (n : Nat)), some (.ref S), some (.ref p2), some (.ref D), some (.ref p), some (.ref pl)] ∧ Adv [] HB H', ?_, ?_⟩
        · walk_at "rd"
          have aM : Adv [] HB (upd (upd H9 u (.tup [.int 0])) p2 (.lst (zs2 ++ [.ref u]))) := a79.mut np2
          refine iteB (fun e => ?_) (fun e => ?_)
          · walk_at "rd"
            refine ⟨by show 1 ≤ sizeLine; decide, fun u2 nu2 => ?_⟩
            have c3 := Adv.new (M := []) (o := .tup [.int (n : Nat)]) nu2
            walk_at "rd"
            refine ⟨p2, zs2 ++ [.ref u], 0, 0, rfl, rfl, c3.same _ _ upd_same, ?_, ?_⟩
            · unfold ixN
              rw [List.length_append]
              simp
            · walk_at "rd"
              exact ⟨rfl, (aM.trans c3).mut np2⟩
          · walk_at "rd"
            exact ⟨rfl, aM⟩
        · rintro σ' H10 ⟨rfl, a10⟩
          have hs10 := hsB.same a10
          walk_at "rd"
          refine go_cross (M := [s]) (alS hs10) hn hg hr100 ((isPl.adv (Adv.nil a10)).less nil_) (fun p3 zs3 H11 np3 hp3 hz3 a11 => ?_)
          rw [hTT, hlc] at hz3
          have p3s : p3 ∉ [s] := notin1 fun z => hs10.here (by rw [← z]; exact np3)
          have g11 := a10.trans a11
          walk_at "rd"
          refine ⟨.ref p3, .ref p, _, rfl, (Is.lst hp3 p3s hz3).less nil_, (isP.adv (Adv.nil g11)).less nil_, setsD_sz L (by omega), fun H12 a12 => ?_⟩
          have g12 := g11.trans a12
          have hp12 := g12.same _ _ hpB
          walk_at "rd"
          intro l2 nl2
          have c2 := Adv.new (M := []) (o := .lst zs) nl2
          have g13 := g12.trans c2
          have hs13 := hsB.same g13
          have l2s : l2 ∉ [s] := notin1 fun z => (hsB.same g12).here (by rw [← z]; exact nl2)
          have hg2 : ∀ r ∈ (srtB L).map (bitsL 12), GoodR n r := fun r hr => by
            obtain ⟨x, hx, rfl⟩ := List.mem_map.mp hr
            exact bits_good hn (hlt x ((srtB_perm L).mem_iff.mp hx))
          have esd : setsD L = ((srtB L).map (bitsL 12)).map rwD := by
            unfold setsD
            rw [List.map_map]
            rfl
          have eTT : ((srtB L).map (bitsL 12)).map bitsN = srtB L := by
            rw [List.map_map]
            conv => rhs; rw [← List.map_id (srtB L)]
            exact List.map_congr_left fun x hx => bitsN_L (hlt12 x ((srtB_perm L).mem_iff.mp hx))
          have sl : (srtB L).length ≤ 4096 := by rw [(srtB_perm L).length_eq]; exact hlen
          have il2 : Is [s] _ (.list (((srtB L).map (bitsL 12)).map rwD)) (.ref l2) := Is.lst upd_same l2s (by rw [← esd]; exact hzB.adv (Adv.nil g13))
          refine go_cross (M := [s]) (alS hs13) hn hg2 (by rw [List.length_map]; omega) (il2.less nil_) (fun p4 zs4 H14 np4 hp4 hz4 a14 => ?_)
          have eld : leastF n (srtB L) = leastN T := least_dual hT fun x => ((srtB_perm L).mem_iff).trans (hmem x)
          rw [eTT, eld] at hz4
          have p4s : p4 ∉ [s] := notin1 fun z => hs13.here (by rw [← z]; exact np4)
          have g14 := g13.trans a14
          have hD14 := g14.same _ _ hDB
          walk_at "rd"
          refine ⟨D, T, rfl, hD14, by omega, fun D2 H15 nD2 hD2 a15 => ?_⟩
          have g15 := g14.trans a15
          have hs15 := hsB.same g15
          have ll := leastN_len T
          walk_at "rd"
          refine ⟨[s], D2, leastN T, rfl, alS hs15, hD2, by omega, fun x hx => hT12 x (leastN_mem.mp hx).1, leastN_nz T, fun p5 zs5 H16 np5 hp5 hz5 a16 => ?_⟩
          have p5s : p5 ∉ [s] := notin1 fun z => hs15.here (by rw [← z]; exact np5)
          have g16 := g15.trans a16
          walk_at "rd"
          refine ⟨.ref p4, .ref p5, _, rfl, ((Is.lst hp4 p4s hz4).adv (Adv.nil (a15.trans a16))).less nil_, (Is.lst hp5 p5s hz5).less nil_, setsD_sz _ (by omega), fun H17 a17 => ?_⟩
          have g17 := g16.trans a17
          have hs17 := hsB.same g17
          walk_at "rd"
          refine ⟨⟨[s], s, S, n, xs, rfl, hs17, by simp, alS hs17, hn, Ss, g17.same _ _ hSB, by omega, fun x h => ((hx' x h).adv (Adv.nil (a36.trans b1)) nil_).adv (Adv.nil g17) nil_, fun H' => ?_⟩⟩
          exact q _
end
end K89

set_option Elab.async false
set_option linter.all false
set_option maxRecDepth 100000
set_option maxHeartbeats 4000000
namespace K89
open PySem PySem.Spec PyProof.Rows L2 LL
/-! what the top has written -/
theorem kit_of {K : PySem.W.Frag} {D C : Addr} {b : Bool} (ht : PySem.W.typeIn K (.ref C) = some (.type "type")) (hd : PySem.W.hasDictIn K C = true) (h : PySem.W.subIn K (.ref D) (.ref C) = some b) (self : PySem.W.subIn K (.ref D) (.ref D) = some true) : PySem.W.kitOne K (.ref D) (.ref C) = some b := by
  unfold PySem.W.kitOne
  by_cases e : D = C
  · subst e
    rw [h] at self
    rw [if_pos (by simp)]
    exact self.symm
  · rw [if_neg (by simpa using e)]
    obtain ⟨cd, hc, _⟩ := PySem.W.any_some hd
    show (if ((PySem.W.clsIn K C).isSome && PySem.W.typeIn K (.ref C) == some (.type "type")) = true then PySem.W.subIn K (.ref D) (.ref C) else none) = some b
    rw [if_pos (by rw [hc, ht]; rfl)]
    exact h
theorem kit_val {K : PySem.W.Frag} {D : Addr} (h : PySem.W.subIn K (.ref D) (.type "ValueError") = some true) : PySem.W.kitOne K (.ref D) (.type "ValueError") = some true := by
  unfold PySem.W.kitOne
  rw [if_neg (by simp)]
  show (if PySem.W.kitMeta "ValueError" = true then PySem.W.subIn K (.ref D) (.type "ValueError") else none) = some true
  rw [if_pos (by decide +kernel)]
  exact h
theorem rv_str {x : Str} {t : Tok} : RelV (.str x) (.str x t) := ⟨t, rfl⟩
theorem sqT_K {K : PySem.W.Frag} {a : Addr} {od : Option Addr} {its : Array Value} {n : Nat} {sl : Array (Option Value)} {xs : List V} (h : K.lookup a = some ⟨.type "tuple", od, .seq its n, sl⟩) (hz : its.size ≤ sizeLine) (r : Vals xs its.toList) (H : Hp) : SqT K H a xs :=
  .inr ⟨_, its, n, h, rfl, rfl, hz, r⟩
theorem find_map {z : Str} : ∀ l : List DictEntry, (l.find? (·.key.isStr z)).map (·.val) = ((l.map fun e => (e.key, e.val)).find? fun p => p.1.isStr z).map (·.2)
  | [] => rfl
  | e :: l => by
    rw [List.map_cons, List.find?_cons, List.find?_cons]
    show Option.map _ (match e.key.isStr z with | true => _ | false => _) = Option.map _ (match e.key.isStr z with | true => _ | false => _)
    cases e.key.isStr z with
    | true => rfl
    | false => exact find_map l
theorem any_map : ∀ l : List DictEntry, l.any (·.refKey) = (l.map fun e => (e.key, e.val)).any fun p => match p.1 with | .ref _ => true | _ => false
  | [] => rfl
  | e :: l => by
    rw [List.map_cons, List.any_cons, List.any_cons, any_map l]
    rfl
theorem items_at {K : PySem.W.Frag} {a : Addr} {es : Array DictEntry} {n : Nat} {i1 i2 i3 i4 i5 i6 j1 j2 j3 j4 j5 j6 : Tok} (h : K.lookup a = some ⟨.type "dict", none, .dict es n, #[]⟩)
    (e : es.toList.map (fun e => (e.key, e.val)) = [(.str "letter" i1, .int 2 j1), (.str "no" i2, .int 1 j2), (.str "and" i3, .int 3 j3), (.str "or" i4, .int 3 j4), (.str "if" i5, .int 3 j5), (.str "box" i6, .int 2 j6)]) (z : Str) :
    ∃ r, PySem.W.nsIn K a z = some r ∧ RelV (match nItems z with | some k => V.int (k : Nat) | none => V.non) (r.getD .none) := by
  have f := find_map (z := z) es.toList
  have g := any_map es.toList
  rw [e] at f g
  have g' : es.toList.any (·.refKey) = false := g
  unfold PySem.W.nsIn
  rw [h]
  show ∃ r, (match es.toList.find? (·.key.isStr z) with | some e => some (some e.val) | none => if es.toList.any (·.refKey) then none else some none) = some r ∧ _
  rw [g']
  have step : ∀ r : Option Value, (es.toList.find? (·.key.isStr z)).map (·.val) = r → RelV (match nItems z with | some k => V.int (k : Nat) | none => V.non) (r.getD .none) →
      ∃ r, (match es.toList.find? (·.key.isStr z) with | some e => some (some e.val) | none => if false = true then none else some none) = some r ∧ RelV (match nItems z with | some k => V.int (k : Nat) | none => V.non) (r.getD .none) := by
    intro r hr rel
    cases q : es.toList.find? (·.key.isStr z) with
    | none =>
      rw [q] at hr
      exact ⟨none, rfl, by rw [← hr] at rel; exact rel⟩
    | some en =>
      rw [q] at hr
      exact ⟨some en.val, rfl, by rw [← hr] at rel; exact rel⟩
  refine step _ f ?_
  have iS : ∀ (x : Str) (t : Tok), Value.isStr (.str x t) z = (x == z) := fun _ _ => rfl
  by_cases h1 : z = "letter"
  · subst h1; exact ⟨_, rfl⟩
  by_cases h2 : z = "no"
  · subst h2; exact ⟨_, rfl⟩
  by_cases h3 : z = "and"
  · subst h3; exact ⟨_, rfl⟩
  by_cases h4 : z = "or"
  · subst h4; exact ⟨_, rfl⟩
  by_cases h5 : z = "if"
  · subst h5; exact ⟨_, rfl⟩
  by_cases h6 : z = "box"
  · subst h6; exact ⟨_, rfl⟩
  have n0 : nItems z = none := by
    unfold nItems
    rw [if_neg h1, if_neg h2, if_neg h3, if_neg h4, if_neg h5, if_neg h6]
  rw [n0]
  have ne : ∀ x : Str, z ≠ x → (x == z) = false := fun x hx => by simpa using fun e => hx e.symm
  simp only [List.find?_cons, iS, ne _ h1, ne _ h2, ne _ h3, ne _ h4, ne _ h5, ne _ h6, List.find?_nil]
  rfl
/-- the tuples of the written part, and how a tuple key is hashed -/
def kwOf (K : PySem.W.Frag) (P : Program) (w : World) : KW := ⟨fun a vs => ∃ (o : Obj) (its : Array Value) (n : Nat), K.lookup a = some o ∧ o.cls = .type "tuple" ∧ o.data = .seq its n ∧ its.size ≤ sizeLine ∧ Vals vs its.toList, fun ks => (tupleKind (mixKind P w)).hash ks⟩
theorem all_mk {P : Program} {w : World} {K : PySem.W.Frag} {h : Heap} {mg : Str → Option Value} {fa : Addr} (X : K.In h) (G : h.Ns mainGlobals mg) (hfa : mg "law" = some (.ref fa))
    {od1 an1 : Option Addr} {sl1 : Array (Option Value)} {oc1 kV1 dc1 pm1 cd1 ct1 : Value} {f1 : Addr}
    {od2 an2 : Option Addr} {sl2 : Array (Option Value)} {oc2 kV2 dc2 pm2 cd2 ct2 : Value} {f2 : Addr}
    {od3 an3 : Option Addr} {sl3 : Array (Option Value)} {oc3 kV3 dc3 pm3 cd3 ct3 : Value} {f3 : Addr}
    {od4 an4 : Option Addr} {sl4 : Array (Option Value)} {oc4 kV4 dc4 pm4 cd4 ct4 : Value} {f4 : Addr}
    {od5 an5 : Option Addr} {sl5 : Array (Option Value)} {oc5 kV5 dc5 pm5 cd5 ct5 : Value} {f5 : Addr}
    {od6 an6 : Option Addr} {sl6 : Array (Option Value)} {oc6 kV6 dc6 pm6 cd6 ct6 : Value} {f6 : Addr}
    {od7 an7 : Option Addr} {sl7 : Array (Option Value)} {oc7 kV7 dc7 pm7 cd7 ct7 : Value} {f7 : Addr}
    {od8 an8 : Option Addr} {sl8 : Array (Option Value)} {oc8 kV8 dc8 pm8 cd8 ct8 : Value} {f8 : Addr}
    {od9 an9 : Option Addr} {sl9 : Array (Option Value)} {oc9 kV9 dc9 pm9 cd9 ct9 : Value} {f9 : Addr}
    {od10 an10 : Option Addr} {sl10 : Array (Option Value)} {oc10 kV10 dc10 pm10 cd10 ct10 : Value} {f10 : Addr}
    {od11 an11 : Option Addr} {sl11 : Array (Option Value)} {oc11 kV11 dc11 pm11 cd11 ct11 : Value} {f11 : Addr}
    {od12 an12 : Option Addr} {sl12 : Array (Option Value)} {oc12 kV12 dc12 pm12 cd12 ct12 : Value} {f12 : Addr}
    {od13 an13 : Option Addr} {sl13 : Array (Option Value)} {oc13 kV13 dc13 pm13 cd13 ct13 : Value} {f13 : Addr}
    {od14 an14 : Option Addr} {sl14 : Array (Option Value)} {oc14 kV14 dc14 pm14 cd14 ct14 : Value} {f14 : Addr}
    {od15 an15 : Option Addr} {sl15 : Array (Option Value)} {oc15 kV15 dc15 pm15 cd15 ct15 : Value} {f15 : Addr}
    {od16 an16 : Option Addr} {sl16 : Array (Option Value)} {oc16 kV16 dc16 pm16 cd16 ct16 : Value} {f16 : Addr}
    {od17 an17 : Option Addr} {sl17 : Array (Option Value)} {oc17 kV17 dc17 pm17 cd17 ct17 : Value} {f17 : Addr}
    {od18 an18 : Option Addr} {sl18 : Array (Option Value)} {oc18 kV18 dc18 pm18 cd18 ct18 : Value} {f18 : Addr}
    {od19 an19 : Option Addr} {sl19 : Array (Option Value)} {oc19 kV19 dc19 pm19 cd19 ct19 : Value} {f19 : Addr}
    {od20 an20 : Option Addr} {sl20 : Array (Option Value)} {oc20 kV20 dc20 pm20 cd20 ct20 : Value} {f20 : Addr}
    {od21 an21 : Option Addr} {sl21 : Array (Option Value)} {oc21 kV21 dc21 pm21 cd21 ct21 : Value} {f21 : Addr}
    {od22 an22 : Option Addr} {sl22 : Array (Option Value)} {oc22 kV22 dc22 pm22 cd22 ct22 : Value} {f22 : Addr}
    {od23 an23 : Option Addr} {sl23 : Array (Option Value)} {oc23 kV23 dc23 pm23 cd23 ct23 : Value} {f23 : Addr}
    {od24 an24 : Option Addr} {sl24 : Array (Option Value)} {oc24 kV24 dc24 pm24 cd24 ct24 : Value} {f24 : Addr}
    {od25 an25 : Option Addr} {sl25 : Array (Option Value)} {oc25 kV25 dc25 pm25 cd25 ct25 : Value} {f25 : Addr}
    {od26 an26 : Option Addr} {sl26 : Array (Option Value)} {oc26 kV26 dc26 pm26 cd26 ct26 : Value} {f26 : Addr}
    {od27 an27 : Option Addr} {sl27 : Array (Option Value)} {oc27 kV27 dc27 pm27 cd27 ct27 : Value} {f27 : Addr}
    {od28 an28 : Option Addr} {sl28 : Array (Option Value)} {oc28 kV28 dc28 pm28 cd28 ct28 : Value} {f28 : Addr}
    {t_MOST_CROSSED : Tok}
    {cBadLogic cBadSheet cBadClaim cBadModel cBadPaper cBadTerm cBadEdit cBadValue cBadText cBadSize cTooMany cNotBoxed cNotProved cNotThere cNothingToUndo cNothingToRedo CE : Addr}
    {odEBadValue anEBadValue : Option Addr} {slEBadValue : Array (Option Value)} {ocEBadValue kVEBadValue dcEBadValue pmEBadValue cdEBadValue ctEBadValue : Value} {fEBadValue : Addr}
    (a1 : PySem.W.nsIn K mainGlobals "is_integer" = some (some (.ref f1)))
    (l1 : K.lookup f1 = some ⟨oc1, od1, .func (PySem.W.fnOf "is_integer" "is_integer" (defArgs s_is_integer) (defBody s_is_integer) (defScope s_is_integer) .none kV1 dc1 pm1 an1 cd1 ct1), sl1⟩)
    (c1 : PySem.W.codeIn K cd1 "is_integer" = true)
    (k1 : PySem.W.keepIn K (.ref f1) = true)
    (a2 : PySem.W.nsIn K mainGlobals "is_between" = some (some (.ref f2)))
    (l2 : K.lookup f2 = some ⟨oc2, od2, .func (PySem.W.fnOf "is_between" "is_between" (defArgs s_is_between) (defBody s_is_between) (defScope s_is_between) .none kV2 dc2 pm2 an2 cd2 ct2), sl2⟩)
    (c2 : PySem.W.codeIn K cd2 "is_between" = true)
    (k2 : PySem.W.keepIn K (.ref f2) = true)
    (a3 : PySem.W.nsIn K mainGlobals "are_any_rows" = some (some (.ref f3)))
    (l3 : K.lookup f3 = some ⟨oc3, od3, .func (PySem.W.fnOf "are_any_rows" "are_any_rows" (defArgs s_are_any_rows) (defBody s_are_any_rows) (defScope s_are_any_rows) .none kV3 dc3 pm3 an3 cd3 ct3), sl3⟩)
    (c3 : PySem.W.codeIn K cd3 "are_any_rows" = true)
    (k3 : PySem.W.keepIn K (.ref f3) = true)
    (a4 : PySem.W.nsIn K mainGlobals "is_rising" = some (some (.ref f4)))
    (l4 : K.lookup f4 = some ⟨oc4, od4, .func (PySem.W.fnOf "is_rising" "is_rising" (defArgs s_is_rising) (defBody s_is_rising) (defScope s_is_rising) .none kV4 dc4 pm4 an4 cd4 ct4), sl4⟩)
    (c4 : PySem.W.codeIn K cd4 "is_rising" = true)
    (k4 : PySem.W.keepIn K (.ref f4) = true)
    (a5 : PySem.W.nsIn K mainGlobals "are_rows" = some (some (.ref f5)))
    (l5 : K.lookup f5 = some ⟨oc5, od5, .func (PySem.W.fnOf "are_rows" "are_rows" (defArgs s_are_rows) (defBody s_are_rows) (defScope s_are_rows) .none kV5 dc5 pm5 an5 cd5 ct5), sl5⟩)
    (c5 : PySem.W.codeIn K cd5 "are_rows" = true)
    (k5 : PySem.W.keepIn K (.ref f5) = true)
    (a6 : PySem.W.nsIn K mainGlobals "check_between" = some (some (.ref f6)))
    (l6 : K.lookup f6 = some ⟨oc6, od6, .func (PySem.W.fnOf "check_between" "check_between" (defArgs s_check_between) (defBody s_check_between) (defScope s_check_between) .none kV6 dc6 pm6 an6 cd6 ct6), sl6⟩)
    (c6 : PySem.W.codeIn K cd6 "check_between" = true)
    (k6 : PySem.W.keepIn K (.ref f6) = true)
    (a7 : PySem.W.nsIn K mainGlobals "bits_of" = some (some (.ref f7)))
    (l7 : K.lookup f7 = some ⟨oc7, od7, .func (PySem.W.fnOf "bits_of" "bits_of" (defArgs s_bits_of) (defBody s_bits_of) (defScope s_bits_of) .none kV7 dc7 pm7 an7 cd7 ct7), sl7⟩)
    (c7 : PySem.W.codeIn K cd7 "bits_of" = true)
    (k7 : PySem.W.keepIn K (.ref f7) = true)
    (a8 : PySem.W.nsIn K mainGlobals "numbers_in" = some (some (.ref f8)))
    (l8 : K.lookup f8 = some ⟨oc8, od8, .func (PySem.W.fnOf "numbers_in" "numbers_in" (defArgs s_numbers_in) (defBody s_numbers_in) (defScope s_numbers_in) .none kV8 dc8 pm8 an8 cd8 ct8), sl8⟩)
    (c8 : PySem.W.codeIn K cd8 "numbers_in" = true)
    (k8 : PySem.W.keepIn K (.ref f8) = true)
    (a9 : PySem.W.nsIn K mainGlobals "least_crossing" = some (some (.ref f9)))
    (l9 : K.lookup f9 = some ⟨oc9, od9, .func (PySem.W.fnOf "least_crossing" "least_crossing" (defArgs s_least_crossing) (defBody s_least_crossing) (defScope s_least_crossing) .none kV9 dc9 pm9 an9 cd9 ct9), sl9⟩)
    (c9 : PySem.W.codeIn K cd9 "least_crossing" = true)
    (k9 : PySem.W.keepIn K (.ref f9) = true)
    (a10 : PySem.W.nsIn K mainGlobals "listed" = some (some (.ref f10)))
    (l10 : K.lookup f10 = some ⟨oc10, od10, .func (PySem.W.fnOf "listed" "listed" (defArgs s_listed) (defBody s_listed) (defScope s_listed) .none kV10 dc10 pm10 an10 cd10 ct10), sl10⟩)
    (c10 : PySem.W.codeIn K cd10 "listed" = true)
    (k10 : PySem.W.keepIn K (.ref f10) = true)
    (a11 : PySem.W.nsIn K mainGlobals "crossing" = some (some (.ref f11)))
    (l11 : K.lookup f11 = some ⟨oc11, od11, .func (PySem.W.fnOf "crossing" "crossing" (defArgs s_crossing) (defBody s_crossing) (defScope s_crossing) .none kV11 dc11 pm11 an11 cd11 ct11), sl11⟩)
    (c11 : PySem.W.codeIn K cd11 "crossing" = true)
    (k11 : PySem.W.keepIn K (.ref f11) = true)
    (a12 : PySem.W.nsIn K mainGlobals "_law_stream" = some (some (.ref f12)))
    (l12 : K.lookup f12 = some ⟨oc12, od12, .func (PySem.W.fnOf "_law_stream" "_law_stream" (defArgs s_law_stream) (defBody s_law_stream) (defScope s_law_stream) .none kV12 dc12 pm12 an12 cd12 ct12), sl12⟩)
    (c12 : PySem.W.codeIn K cd12 "_law_stream" = true)
    (k12 : PySem.W.keepIn K (.ref f12) = true)
    (a13 : PySem.W.nsIn K mainGlobals "_law_next" = some (some (.ref f13)))
    (l13 : K.lookup f13 = some ⟨oc13, od13, .func (PySem.W.fnOf "_law_next" "_law_next" (defArgs s_law_next) (defBody s_law_next) (defScope s_law_next) .none kV13 dc13 pm13 an13 cd13 ct13), sl13⟩)
    (c13 : PySem.W.codeIn K cd13 "_law_next" = true)
    (k13 : PySem.W.keepIn K (.ref f13) = true)
    (a14 : PySem.W.nsIn K mainGlobals "_law_pick" = some (some (.ref f14)))
    (l14 : K.lookup f14 = some ⟨oc14, od14, .func (PySem.W.fnOf "_law_pick" "_law_pick" (defArgs s_law_pick) (defBody s_law_pick) (defScope s_law_pick) .none kV14 dc14 pm14 an14 cd14 ct14), sl14⟩)
    (c14 : PySem.W.codeIn K cd14 "_law_pick" = true)
    (k14 : PySem.W.keepIn K (.ref f14) = true)
    (a15 : PySem.W.nsIn K mainGlobals "_law_from" = some (some (.ref f15)))
    (l15 : K.lookup f15 = some ⟨oc15, od15, .func (PySem.W.fnOf "_law_from" "_law_from" (defArgs s_law_from) (defBody s_law_from) (defScope s_law_from) .none kV15 dc15 pm15 an15 cd15 ct15), sl15⟩)
    (c15 : PySem.W.codeIn K cd15 "_law_from" = true)
    (k15 : PySem.W.keepIn K (.ref f15) = true)
    (a16 : PySem.W.nsIn K mainGlobals "_law_some" = some (some (.ref f16)))
    (l16 : K.lookup f16 = some ⟨oc16, od16, .func (PySem.W.fnOf "_law_some" "_law_some" (defArgs s_law_some) (defBody s_law_some) (defScope s_law_some) .none kV16 dc16 pm16 an16 cd16 ct16), sl16⟩)
    (c16 : PySem.W.codeIn K cd16 "_law_some" = true)
    (k16 : PySem.W.keepIn K (.ref f16) = true)
    (a17 : PySem.W.nsIn K mainGlobals "_law_same" = some (some (.ref f17)))
    (l17 : K.lookup f17 = some ⟨oc17, od17, .func (PySem.W.fnOf "_law_same" "_law_same" (defArgs s_law_same) (defBody s_law_same) (defScope s_law_same) .none kV17 dc17 pm17 an17 cd17 ct17), sl17⟩)
    (c17 : PySem.W.codeIn K cd17 "_law_same" = true)
    (k17 : PySem.W.keepIn K (.ref f17) = true)
    (a18 : PySem.W.nsIn K mainGlobals "_law_named" = some (some (.ref f18)))
    (l18 : K.lookup f18 = some ⟨oc18, od18, .func (PySem.W.fnOf "_law_named" "_law_named" (defArgs s_law_named) (defBody s_law_named) (defScope s_law_named) .none kV18 dc18 pm18 an18 cd18 ct18), sl18⟩)
    (c18 : PySem.W.codeIn K cd18 "_law_named" = true)
    (k18 : PySem.W.keepIn K (.ref f18) = true)
    (a19 : PySem.W.nsIn K mainGlobals "_law_bits" = some (some (.ref f19)))
    (l19 : K.lookup f19 = some ⟨oc19, od19, .func (PySem.W.fnOf "_law_bits" "_law_bits" (defArgs s_law_bits) (defBody s_law_bits) (defScope s_law_bits) .none kV19 dc19 pm19 an19 cd19 ct19), sl19⟩)
    (c19 : PySem.W.codeIn K cd19 "_law_bits" = true)
    (k19 : PySem.W.keepIn K (.ref f19) = true)
    (a20 : PySem.W.nsIn K mainGlobals "_law_listed" = some (some (.ref f20)))
    (l20 : K.lookup f20 = some ⟨oc20, od20, .func (PySem.W.fnOf "_law_listed" "_law_listed" (defArgs s_law_listed) (defBody s_law_listed) (defScope s_law_listed) .none kV20 dc20 pm20 an20 cd20 ct20), sl20⟩)
    (c20 : PySem.W.codeIn K cd20 "_law_listed" = true)
    (k20 : PySem.W.keepIn K (.ref f20) = true)
    (a21 : PySem.W.nsIn K mainGlobals "_law_least" = some (some (.ref f21)))
    (l21 : K.lookup f21 = some ⟨oc21, od21, .func (PySem.W.fnOf "_law_least" "_law_least" (defArgs s_law_least) (defBody s_law_least) (defScope s_law_least) .none kV21 dc21 pm21 an21 cd21 ct21), sl21⟩)
    (c21 : PySem.W.codeIn K cd21 "_law_least" = true)
    (k21 : PySem.W.keepIn K (.ref f21) = true)
    (a22 : PySem.W.nsIn K mainGlobals "_law_crossing" = some (some (.ref f22)))
    (l22 : K.lookup f22 = some ⟨oc22, od22, .func (PySem.W.fnOf "_law_crossing" "_law_crossing" (defArgs s_law_crossing) (defBody s_law_crossing) (defScope s_law_crossing) .none kV22 dc22 pm22 an22 cd22 ct22), sl22⟩)
    (c22 : PySem.W.codeIn K cd22 "_law_crossing" = true)
    (k22 : PySem.W.keepIn K (.ref f22) = true)
    (a23 : PySem.W.nsIn K mainGlobals "_law_tuples" = some (some (.ref f23)))
    (l23 : K.lookup f23 = some ⟨oc23, od23, .func (PySem.W.fnOf "_law_tuples" "_law_tuples" (defArgs s_law_tuples) (defBody s_law_tuples) (defScope s_law_tuples) .none kV23 dc23 pm23 an23 cd23 ct23), sl23⟩)
    (c23 : PySem.W.codeIn K cd23 "_law_tuples" = true)
    (k23 : PySem.W.keepIn K (.ref f23) = true)
    (a24 : PySem.W.nsIn K mainGlobals "_law_sets" = some (some (.ref f24)))
    (l24 : K.lookup f24 = some ⟨oc24, od24, .func (PySem.W.fnOf "_law_sets" "_law_sets" (defArgs s_law_sets) (defBody s_law_sets) (defScope s_law_sets) .none kV24 dc24 pm24 an24 cd24 ct24), sl24⟩)
    (c24 : PySem.W.codeIn K cd24 "_law_sets" = true)
    (k24 : PySem.W.keepIn K (.ref f24) = true)
    (a25 : PySem.W.nsIn K mainGlobals "_law_wrong_set" = some (some (.ref f25)))
    (l25 : K.lookup f25 = some ⟨oc25, od25, .func (PySem.W.fnOf "_law_wrong_set" "_law_wrong_set" (defArgs s_law_wrong_set) (defBody s_law_wrong_set) (defScope s_law_wrong_set) .none kV25 dc25 pm25 an25 cd25 ct25), sl25⟩)
    (c25 : PySem.W.codeIn K cd25 "_law_wrong_set" = true)
    (k25 : PySem.W.keepIn K (.ref f25) = true)
    (a26 : PySem.W.nsIn K mainGlobals "_law_asked" = some (some (.ref f26)))
    (l26 : K.lookup f26 = some ⟨oc26, od26, .func (PySem.W.fnOf "_law_asked" "_law_asked" (defArgs s_law_asked) (defBody s_law_asked) (defScope s_law_asked) .none kV26 dc26 pm26 an26 cd26 ct26), sl26⟩)
    (c26 : PySem.W.codeIn K cd26 "_law_asked" = true)
    (k26 : PySem.W.keepIn K (.ref f26) = true)
    (a27 : PySem.W.nsIn K mainGlobals "_law_refuses" = some (some (.ref f27)))
    (l27 : K.lookup f27 = some ⟨oc27, od27, .func (PySem.W.fnOf "_law_refuses" "_law_refuses" (defArgs s_law_refuses) (defBody s_law_refuses) (defScope s_law_refuses) .none kV27 dc27 pm27 an27 cd27 ct27), sl27⟩)
    (c27 : PySem.W.codeIn K cd27 "_law_refuses" = true)
    (k27 : PySem.W.keepIn K (.ref f27) = true)
    (a28 : PySem.W.nsIn K mainGlobals "law" = some (some (.ref f28)))
    (l28 : K.lookup f28 = some ⟨oc28, od28, .func (PySem.W.fnOf "law" "law" (defArgs s_law) (defBody s_law) (defScope s_law) .none kV28 dc28 pm28 an28 cd28 ct28), sl28⟩)
    (c28 : PySem.W.codeIn K cd28 "law" = true)
    (k28 : PySem.W.keepIn K (.ref f28) = true)
    (z_ValueError : PySem.W.nsIn K mainGlobals "ValueError" = some none)
    (z_abs : PySem.W.nsIn K mainGlobals "abs" = some none)
    (z_all : PySem.W.nsIn K mainGlobals "all" = some none)
    (z_any : PySem.W.nsIn K mainGlobals "any" = some none)
    (z_bool : PySem.W.nsIn K mainGlobals "bool" = some none)
    (z_dict : PySem.W.nsIn K mainGlobals "dict" = some none)
    (z_int : PySem.W.nsIn K mainGlobals "int" = some none)
    (z_isinstance : PySem.W.nsIn K mainGlobals "isinstance" = some none)
    (z_len : PySem.W.nsIn K mainGlobals "len" = some none)
    (z_list : PySem.W.nsIn K mainGlobals "list" = some none)
    (z_range : PySem.W.nsIn K mainGlobals "range" = some none)
    (z_set : PySem.W.nsIn K mainGlobals "set" = some none)
    (z_sorted : PySem.W.nsIn K mainGlobals "sorted" = some none)
    (z_str : PySem.W.nsIn K mainGlobals "str" = some none)
    (z_tuple : PySem.W.nsIn K mainGlobals "tuple" = some none)
    (n_MOST_CROSSED : PySem.W.nsIn K mainGlobals "MOST_CROSSED" = some (some (.int 12 t_MOST_CROSSED)))
    (a_BadLogic : PySem.W.nsIn K mainGlobals "BadLogic" = some (some (.ref cBadLogic)))
    (a_BadSheet : PySem.W.nsIn K mainGlobals "BadSheet" = some (some (.ref cBadSheet)))
    (a_BadClaim : PySem.W.nsIn K mainGlobals "BadClaim" = some (some (.ref cBadClaim)))
    (a_BadModel : PySem.W.nsIn K mainGlobals "BadModel" = some (some (.ref cBadModel)))
    (a_BadPaper : PySem.W.nsIn K mainGlobals "BadPaper" = some (some (.ref cBadPaper)))
    (a_BadTerm : PySem.W.nsIn K mainGlobals "BadTerm" = some (some (.ref cBadTerm)))
    (a_BadEdit : PySem.W.nsIn K mainGlobals "BadEdit" = some (some (.ref cBadEdit)))
    (a_BadValue : PySem.W.nsIn K mainGlobals "BadValue" = some (some (.ref cBadValue)))
    (a_BadText : PySem.W.nsIn K mainGlobals "BadText" = some (some (.ref cBadText)))
    (a_BadSize : PySem.W.nsIn K mainGlobals "BadSize" = some (some (.ref cBadSize)))
    (a_TooMany : PySem.W.nsIn K mainGlobals "TooMany" = some (some (.ref cTooMany)))
    (a_NotBoxed : PySem.W.nsIn K mainGlobals "NotBoxed" = some (some (.ref cNotBoxed)))
    (a_NotProved : PySem.W.nsIn K mainGlobals "NotProved" = some (some (.ref cNotProved)))
    (a_NotThere : PySem.W.nsIn K mainGlobals "NotThere" = some (some (.ref cNotThere)))
    (a_NothingToUndo : PySem.W.nsIn K mainGlobals "NothingToUndo" = some (some (.ref cNothingToUndo)))
    (a_NothingToRedo : PySem.W.nsIn K mainGlobals "NothingToRedo" = some (some (.ref cNothingToRedo)))
    (a_CourtError : PySem.W.nsIn K mainGlobals "CourtError" = some (some (.ref CE)))
    (t_BadLogic : PySem.W.typeIn K (.ref cBadLogic) = some (.type "type"))
    (h_BadLogic : PySem.W.hasDictIn K cBadLogic = true)
    (t_BadSheet : PySem.W.typeIn K (.ref cBadSheet) = some (.type "type"))
    (h_BadSheet : PySem.W.hasDictIn K cBadSheet = true)
    (t_BadClaim : PySem.W.typeIn K (.ref cBadClaim) = some (.type "type"))
    (h_BadClaim : PySem.W.hasDictIn K cBadClaim = true)
    (t_BadModel : PySem.W.typeIn K (.ref cBadModel) = some (.type "type"))
    (h_BadModel : PySem.W.hasDictIn K cBadModel = true)
    (t_BadPaper : PySem.W.typeIn K (.ref cBadPaper) = some (.type "type"))
    (h_BadPaper : PySem.W.hasDictIn K cBadPaper = true)
    (t_BadTerm : PySem.W.typeIn K (.ref cBadTerm) = some (.type "type"))
    (h_BadTerm : PySem.W.hasDictIn K cBadTerm = true)
    (t_BadEdit : PySem.W.typeIn K (.ref cBadEdit) = some (.type "type"))
    (h_BadEdit : PySem.W.hasDictIn K cBadEdit = true)
    (t_BadValue : PySem.W.typeIn K (.ref cBadValue) = some (.type "type"))
    (h_BadValue : PySem.W.hasDictIn K cBadValue = true)
    (t_BadText : PySem.W.typeIn K (.ref cBadText) = some (.type "type"))
    (h_BadText : PySem.W.hasDictIn K cBadText = true)
    (t_BadSize : PySem.W.typeIn K (.ref cBadSize) = some (.type "type"))
    (h_BadSize : PySem.W.hasDictIn K cBadSize = true)
    (t_TooMany : PySem.W.typeIn K (.ref cTooMany) = some (.type "type"))
    (h_TooMany : PySem.W.hasDictIn K cTooMany = true)
    (t_NotBoxed : PySem.W.typeIn K (.ref cNotBoxed) = some (.type "type"))
    (h_NotBoxed : PySem.W.hasDictIn K cNotBoxed = true)
    (t_NotProved : PySem.W.typeIn K (.ref cNotProved) = some (.type "type"))
    (h_NotProved : PySem.W.hasDictIn K cNotProved = true)
    (t_NotThere : PySem.W.typeIn K (.ref cNotThere) = some (.type "type"))
    (h_NotThere : PySem.W.hasDictIn K cNotThere = true)
    (t_NothingToUndo : PySem.W.typeIn K (.ref cNothingToUndo) = some (.type "type"))
    (h_NothingToUndo : PySem.W.hasDictIn K cNothingToUndo = true)
    (t_NothingToRedo : PySem.W.typeIn K (.ref cNothingToRedo) = some (.type "type"))
    (h_NothingToRedo : PySem.W.hasDictIn K cNothingToRedo = true)
    (t_CourtError : PySem.W.typeIn K (.ref CE) = some (.type "type"))
    (h_CourtError : PySem.W.hasDictIn K CE = true)
    (bC : PySem.W.subIn K (.ref CE) (.type "BaseException") = some true)
    (spc : PySem.W.specialIn K (.builtin "object.__class__") "__get__" = some (some (.builtin "getset_descriptor.__get__")))
    (tkc : PySem.W.takesIn K (.builtin "object.__class__") = some true)
    (s_BadValue_BadLogic : PySem.W.subIn K (.ref cBadValue) (.ref cBadLogic) = some false)
    (s_BadValue_BadSheet : PySem.W.subIn K (.ref cBadValue) (.ref cBadSheet) = some false)
    (s_BadValue_BadClaim : PySem.W.subIn K (.ref cBadValue) (.ref cBadClaim) = some false)
    (s_BadValue_BadModel : PySem.W.subIn K (.ref cBadValue) (.ref cBadModel) = some false)
    (s_BadValue_BadPaper : PySem.W.subIn K (.ref cBadValue) (.ref cBadPaper) = some false)
    (s_BadValue_BadTerm : PySem.W.subIn K (.ref cBadValue) (.ref cBadTerm) = some false)
    (s_BadValue_BadEdit : PySem.W.subIn K (.ref cBadValue) (.ref cBadEdit) = some false)
    (s_BadValue_BadValue : PySem.W.subIn K (.ref cBadValue) (.ref cBadValue) = some true)
    (s_BadValue_BadText : PySem.W.subIn K (.ref cBadValue) (.ref cBadText) = some false)
    (s_BadValue_BadSize : PySem.W.subIn K (.ref cBadValue) (.ref cBadSize) = some false)
    (s_BadValue_TooMany : PySem.W.subIn K (.ref cBadValue) (.ref cTooMany) = some false)
    (s_BadValue_NotBoxed : PySem.W.subIn K (.ref cBadValue) (.ref cNotBoxed) = some false)
    (s_BadValue_NotProved : PySem.W.subIn K (.ref cBadValue) (.ref cNotProved) = some false)
    (s_BadValue_NotThere : PySem.W.subIn K (.ref cBadValue) (.ref cNotThere) = some false)
    (s_BadValue_NothingToUndo : PySem.W.subIn K (.ref cBadValue) (.ref cNothingToUndo) = some false)
    (s_BadValue_NothingToRedo : PySem.W.subIn K (.ref cBadValue) (.ref cNothingToRedo) = some false)
    (s_BadValue_CourtError : PySem.W.subIn K (.ref cBadValue) (.ref CE) = some true)
    (vBadValue : PySem.W.subIn K (.ref cBadValue) (.type "ValueError") = some true)
    (bBadValue : PySem.W.subIn K (.ref cBadValue) (.type "BaseException") = some true)
    (gaBadValue : PySem.W.findIn K (.ref cBadValue) "__getattribute__" = some (some (.builtin "BaseException.__getattribute__")))
    (ggBadValue : PySem.W.findIn K (.ref cBadValue) "__getattr__" = some none)
    (gcBadValue : PySem.W.findIn K (.ref cBadValue) "__class__" = some (some (.builtin "object.__class__")))
    (moBadValue : PySem.W.mroIn K cBadValue (.type "object") = some true)
    (kpBadValue : PySem.W.keepIn K (.ref cBadValue) = true)
    (xSBadValue : ∃ nm q N bs bm sn sub ab col dd k0 k1 k2 k3 k5, K.lookup cBadValue = some (excClassObj nm q cBadValue N bs bm true sn sub ab col dd k0 k1 k2 k3 k5 "ValueError.__new__") ∧ PySem.HandSPX.refsVE bm = true)
    (saBadValue : PySem.W.findIn K (.ref cBadValue) "__setattr__" = some (some (.builtin "object.__setattr__")))
    (noBadValue : PySem.W.findIn K (.ref cBadValue) "name" = some none)
    (iBadValue : PySem.W.findIn K (.ref cBadValue) "__init__" = some (some (.ref fEBadValue)))
    (tIBadValue : PySem.W.typeIn K (.ref fEBadValue) = some (.type "function"))
    (lEBadValue : K.lookup fEBadValue = some ⟨ocEBadValue, odEBadValue, .func (PySem.W.fnOf "__init__" "BadValue.__init__" (defArgs s_BadValue) (defBody s_BadValue) (defScope s_BadValue) .none kVEBadValue dcEBadValue pmEBadValue anEBadValue cdEBadValue ctEBadValue), slEBadValue⟩)
    (cEBadValue : PySem.W.codeIn K cdEBadValue "BadValue.__init__" = true)
    (kEBadValue : PySem.W.keepIn K (.ref fEBadValue) = true) :
    ∃ fd : FuncData, (∀ (s : Shared) (v : Value), BindsTo s fd ⟨[v], []⟩ [("script", v)]) ∧ ∀ base : Heap, K.In base → base.Ns mainGlobals mg → FnOk P w K mg base CX0 14 fa fd ["script"] (spLaw K) := by
  have e := hfa.symm.trans (PySem.W.mg_of X G a28)
  cases e
  letI : KW := kwOf K P w
  have W : KWOk K w := ⟨fun a vs h => h, fun P2 ks => rfl⟩
  have F1 := fun_mk (st := s_is_integer) l1 c1 k1
  have B1 := F1.binds (ps := ["value"]) fun _ _ _ _ _ _ us hl => match us, hl with | [_], _ => rfl
  have F2 := fun_mk (st := s_is_between) l2 c2 k2
  have B2 := F2.binds (ps := ["value", "low", "high"]) fun _ _ _ _ _ _ us hl => match us, hl with | [_, _, _], _ => rfl
  have F3 := fun_mk (st := s_are_any_rows) l3 c3 k3
  have B3 := F3.binds (ps := ["value", "count"]) fun _ _ _ _ _ _ us hl => match us, hl with | [_, _], _ => rfl
  have F4 := fun_mk (st := s_is_rising) l4 c4 k4
  have B4 := F4.binds (ps := ["values"]) fun _ _ _ _ _ _ us hl => match us, hl with | [_], _ => rfl
  have F5 := fun_mk (st := s_are_rows) l5 c5 k5
  have B5 := F5.binds (ps := ["value", "count"]) fun _ _ _ _ _ _ us hl => match us, hl with | [_, _], _ => rfl
  have F6 := fun_mk (st := s_check_between) l6 c6 k6
  have B6 := F6.binds (ps := ["value", "low", "high", "name"]) fun _ _ _ _ _ _ us hl => match us, hl with | [_, _, _, _], _ => rfl
  have F7 := fun_mk (st := s_bits_of) l7 c7 k7
  have B7 := F7.binds (ps := ["numbers"]) fun _ _ _ _ _ _ us hl => match us, hl with | [_], _ => rfl
  have F8 := fun_mk (st := s_numbers_in) l8 c8 k8
  have B8 := F8.binds (ps := ["bits", "many"]) fun _ _ _ _ _ _ us hl => match us, hl with | [_, _], _ => rfl
  have F9 := fun_mk (st := s_least_crossing) l9 c9 k9
  have B9 := F9.binds (ps := ["many", "sets"]) fun _ _ _ _ _ _ us hl => match us, hl with | [_, _], _ => rfl
  have F10 := fun_mk (st := s_listed) l10 c10 k10
  have B10 := F10.binds (ps := ["sets", "many"]) fun _ _ _ _ _ _ us hl => match us, hl with | [_, _], _ => rfl
  have F11 := fun_mk (st := s_crossing) l11 c11 k11
  have B11 := F11.binds (ps := ["many", "sets"]) fun _ _ _ _ _ _ us hl => match us, hl with | [_, _], _ => rfl
  have F12 := fun_mk (st := s_law_stream) l12 c12 k12
  have B12 := F12.binds (ps := ["script"]) fun _ _ _ _ _ _ us hl => match us, hl with | [_], _ => rfl
  have F13 := fun_mk (st := s_law_next) l13 c13 k13
  have B13 := F13.binds (ps := ["stream", "many"]) fun _ _ _ _ _ _ us hl => match us, hl with | [_, _], _ => rfl
  have F14 := fun_mk (st := s_law_pick) l14 c14 k14
  have B14 := F14.binds (ps := ["stream", "rows"]) fun _ _ _ _ _ _ us hl => match us, hl with | [_, _], _ => rfl
  have F15 := fun_mk (st := s_law_from) l15 c15 k15
  have B15 := F15.binds (ps := ["stream", "low", "high"]) fun _ _ _ _ _ _ us hl => match us, hl with | [_, _, _], _ => rfl
  have F16 := fun_mk (st := s_law_some) l16 c16 k16
  have B16 := F16.binds (ps := ["stream", "rows", "share"]) fun _ _ _ _ _ _ us hl => match us, hl with | [_, _, _], _ => rfl
  have F17 := fun_mk (st := s_law_same) l17 c17 k17
  have B17 := F17.binds (ps := ["actual", "due"]) fun _ _ _ _ _ _ us hl => match us, hl with | [_, _], _ => rfl
  have F18 := fun_mk (st := s_law_named) l18 c18 k18
  have B18 := F18.binds (ps := ["error"]) fun _ _ _ _ _ _ us hl => match us, hl with | [_], _ => rfl
  have F19 := fun_mk (st := s_law_bits) l19 c19 k19
  have B19 := F19.binds (ps := ["rows"]) fun _ _ _ _ _ _ us hl => match us, hl with | [_], _ => rfl
  have F20 := fun_mk (st := s_law_listed) l20 c20 k20
  have B20 := F20.binds (ps := ["bits", "many"]) fun _ _ _ _ _ _ us hl => match us, hl with | [_, _], _ => rfl
  have F21 := fun_mk (st := s_law_least) l21 c21 k21
  have B21 := F21.binds (ps := ["sets"]) fun _ _ _ _ _ _ us hl => match us, hl with | [_], _ => rfl
  have F22 := fun_mk (st := s_law_crossing) l22 c22 k22
  have B22 := F22.binds (ps := ["sets"]) fun _ _ _ _ _ _ us hl => match us, hl with | [_], _ => rfl
  have F23 := fun_mk (st := s_law_tuples) l23 c23 k23
  have B23 := F23.binds (ps := ["sets"]) fun _ _ _ _ _ _ us hl => match us, hl with | [_], _ => rfl
  have F24 := fun_mk (st := s_law_sets) l24 c24 k24
  have B24 := F24.binds (ps := ["stream", "many"]) fun _ _ _ _ _ _ us hl => match us, hl with | [_, _], _ => rfl
  have F25 := fun_mk (st := s_law_wrong_set) l25 c25 k25
  have B25 := F25.binds (ps := ["stream", "many"]) fun _ _ _ _ _ _ us hl => match us, hl with | [_, _], _ => rfl
  have F26 := fun_mk (st := s_law_asked) l26 c26 k26
  have B26 := F26.binds (ps := ["many", "sets"]) fun _ _ _ _ _ _ us hl => match us, hl with | [_, _], _ => rfl
  have F27 := fun_mk (st := s_law_refuses) l27 c27 k27
  have B27 := F27.binds (ps := ["stream", "many", "sets"]) fun _ _ _ _ _ _ us hl => match us, hl with | [_, _, _], _ => rfl
  have F28 := fun_mk (st := s_law) l28 c28 k28
  have B28 := F28.binds (ps := ["script"]) fun _ _ _ _ _ _ us hl => match us, hl with | [_], _ => rfl
  have FEBadValue := fun_mk (st := s_BadValue) lEBadValue cEBadValue kEBadValue
  have BEBadValue := FEBadValue.binds (ps := ["self", "name"]) fun _ _ _ _ _ _ us hl => match us, hl with | [_, _], _ => rfl
  have T : Txt K mg := ⟨PySem.W.mg_none_of X G z_ValueError, PySem.W.mg_none_of X G z_abs, PySem.W.mg_none_of X G z_all, PySem.W.mg_none_of X G z_any, PySem.W.mg_none_of X G z_bool, PySem.W.mg_none_of X G z_dict, PySem.W.mg_none_of X G z_int, PySem.W.mg_none_of X G z_isinstance, PySem.W.mg_none_of X G z_len, PySem.W.mg_none_of X G z_list, PySem.W.mg_none_of X G z_range, PySem.W.mg_none_of X G z_set, PySem.W.mg_none_of X G z_sorted, PySem.W.mg_none_of X G z_str, PySem.W.mg_none_of X G z_tuple⟩
  have C : Con K mg w := ⟨⟨_, PySem.W.mg_of X G n_MOST_CROSSED⟩⟩
  let A : All K mg w := ⟨T, C, W, ⟨_, _, F1, PySem.W.mg_of X G a1, B1⟩, ⟨_, _, F2, PySem.W.mg_of X G a2, B2⟩, ⟨_, _, F3, PySem.W.mg_of X G a3, B3⟩, ⟨_, _, F4, PySem.W.mg_of X G a4, B4⟩, ⟨_, _, F5, PySem.W.mg_of X G a5, B5⟩, ⟨_, _, F6, PySem.W.mg_of X G a6, B6⟩, ⟨_, _, F7, PySem.W.mg_of X G a7, B7⟩, ⟨_, _, F8, PySem.W.mg_of X G a8, B8⟩, ⟨_, _, F9, PySem.W.mg_of X G a9, B9⟩, ⟨_, _, F10, PySem.W.mg_of X G a10, B10⟩, ⟨_, _, F11, PySem.W.mg_of X G a11, B11⟩, ⟨_, _, F12, PySem.W.mg_of X G a12, B12⟩, ⟨_, _, F13, PySem.W.mg_of X G a13, B13⟩, ⟨_, _, F14, PySem.W.mg_of X G a14, B14⟩, ⟨_, _, F15, PySem.W.mg_of X G a15, B15⟩, ⟨_, _, F16, PySem.W.mg_of X G a16, B16⟩, ⟨_, _, F17, PySem.W.mg_of X G a17, B17⟩, ⟨_, _, F18, PySem.W.mg_of X G a18, B18⟩, ⟨_, _, F19, PySem.W.mg_of X G a19, B19⟩, ⟨_, _, F20, PySem.W.mg_of X G a20, B20⟩, ⟨_, _, F21, PySem.W.mg_of X G a21, B21⟩, ⟨_, _, F22, PySem.W.mg_of X G a22, B22⟩, ⟨_, _, F23, PySem.W.mg_of X G a23, B23⟩, ⟨_, _, F24, PySem.W.mg_of X G a24, B24⟩, ⟨_, _, F25, PySem.W.mg_of X G a25, B25⟩, ⟨_, _, F26, PySem.W.mg_of X G a26, B26⟩, ⟨_, _, F27, PySem.W.mg_of X G a27, B27⟩, ⟨_, _, F28, PySem.W.mg_of X G a28, B28⟩⟩
  let Z : Exs K mg := ⟨CE, fun n => if n = "BadLogic" then cBadLogic else if n = "BadSheet" then cBadSheet else if n = "BadClaim" then cBadClaim else if n = "BadModel" then cBadModel else if n = "BadPaper" then cBadPaper else if n = "BadTerm" then cBadTerm else if n = "BadEdit" then cBadEdit else if n = "BadValue" then cBadValue else if n = "BadText" then cBadText else if n = "BadSize" then cBadSize else if n = "TooMany" then cTooMany else if n = "NotBoxed" then cNotBoxed else if n = "NotProved" then cNotProved else if n = "NotThere" then cNotThere else if n = "NothingToUndo" then cNothingToUndo else if n = "NothingToRedo" then cNothingToRedo else CE, PySem.W.mg_of X G a_CourtError, fun n hn => by
    simp only [allNames, List.mem_cons, List.not_mem_nil, or_false] at hn
    rcases hn with h | h | h | h | h | h | h | h | h | h | h | h | h | h | h | h
    · subst h; exact PySem.W.mg_of X G a_BadLogic
    · subst h; exact PySem.W.mg_of X G a_BadSheet
    · subst h; exact PySem.W.mg_of X G a_BadClaim
    · subst h; exact PySem.W.mg_of X G a_BadModel
    · subst h; exact PySem.W.mg_of X G a_BadPaper
    · subst h; exact PySem.W.mg_of X G a_BadTerm
    · subst h; exact PySem.W.mg_of X G a_BadEdit
    · subst h; exact PySem.W.mg_of X G a_BadValue
    · subst h; exact PySem.W.mg_of X G a_BadText
    · subst h; exact PySem.W.mg_of X G a_BadSize
    · subst h; exact PySem.W.mg_of X G a_TooMany
    · subst h; exact PySem.W.mg_of X G a_NotBoxed
    · subst h; exact PySem.W.mg_of X G a_NotProved
    · subst h; exact PySem.W.mg_of X G a_NotThere
    · subst h; exact PySem.W.mg_of X G a_NothingToUndo
    · subst h; exact PySem.W.mg_of X G a_NothingToRedo⟩
  have NBadValue : NF Z "BadValue" := by
    refine ⟨⟨gaBadValue, ggBadValue, bBadValue, h_BadValue, gcBadValue, spc, tkc, moBadValue⟩, fun n hn => ?_, kit_of t_CourtError h_CourtError s_BadValue_CourtError s_BadValue_BadValue, kit_val vBadValue, PySem.W.exm_ref bC h_CourtError t_CourtError s_BadValue_CourtError⟩
    simp only [allNames, List.mem_cons, List.not_mem_nil, or_false] at hn
    rcases hn with h | h | h | h | h | h | h | h | h | h | h | h | h | h | h | h
    · subst h; exact (kit_of t_BadLogic h_BadLogic s_BadValue_BadLogic s_BadValue_BadValue).trans (congrArg some (by decide +kernel))
    · subst h; exact (kit_of t_BadSheet h_BadSheet s_BadValue_BadSheet s_BadValue_BadValue).trans (congrArg some (by decide +kernel))
    · subst h; exact (kit_of t_BadClaim h_BadClaim s_BadValue_BadClaim s_BadValue_BadValue).trans (congrArg some (by decide +kernel))
    · subst h; exact (kit_of t_BadModel h_BadModel s_BadValue_BadModel s_BadValue_BadValue).trans (congrArg some (by decide +kernel))
    · subst h; exact (kit_of t_BadPaper h_BadPaper s_BadValue_BadPaper s_BadValue_BadValue).trans (congrArg some (by decide +kernel))
    · subst h; exact (kit_of t_BadTerm h_BadTerm s_BadValue_BadTerm s_BadValue_BadValue).trans (congrArg some (by decide +kernel))
    · subst h; exact (kit_of t_BadEdit h_BadEdit s_BadValue_BadEdit s_BadValue_BadValue).trans (congrArg some (by decide +kernel))
    · subst h; exact (kit_of t_BadValue h_BadValue s_BadValue_BadValue s_BadValue_BadValue).trans (congrArg some (by decide +kernel))
    · subst h; exact (kit_of t_BadText h_BadText s_BadValue_BadText s_BadValue_BadValue).trans (congrArg some (by decide +kernel))
    · subst h; exact (kit_of t_BadSize h_BadSize s_BadValue_BadSize s_BadValue_BadValue).trans (congrArg some (by decide +kernel))
    · subst h; exact (kit_of t_TooMany h_TooMany s_BadValue_TooMany s_BadValue_BadValue).trans (congrArg some (by decide +kernel))
    · subst h; exact (kit_of t_NotBoxed h_NotBoxed s_BadValue_NotBoxed s_BadValue_BadValue).trans (congrArg some (by decide +kernel))
    · subst h; exact (kit_of t_NotProved h_NotProved s_BadValue_NotProved s_BadValue_BadValue).trans (congrArg some (by decide +kernel))
    · subst h; exact (kit_of t_NotThere h_NotThere s_BadValue_NotThere s_BadValue_BadValue).trans (congrArg some (by decide +kernel))
    · subst h; exact (kit_of t_NothingToUndo h_NothingToUndo s_BadValue_NothingToUndo s_BadValue_BadValue).trans (congrArg some (by decide +kernel))
    · subst h; exact (kit_of t_NothingToRedo h_NothingToRedo s_BadValue_NothingToRedo s_BadValue_BadValue).trans (congrArg some (by decide +kernel))
  have Z_BadValue : Er_BadValue Z := ⟨⟨xSBadValue, saBadValue, bBadValue, t_BadValue, kpBadValue⟩, _, _, iBadValue, tIBadValue, FEBadValue, BEBadValue, ⟨gaBadValue, ggBadValue, bBadValue, h_BadValue⟩, noBadValue, NBadValue⟩
  exact ⟨A.law.fd, fun s v => .of_eq rfl, fun base _ _ => ok_law A Z Z_BadValue⟩
end K89

set_option Elab.async false
set_option linter.all false
set_option maxRecDepth 100000
open PySem PySem.W PyProof.Rows
set_option maxRecDepth 100000 in
set_option maxHeartbeats 0 in
theorem PySem.Challenge.cw_provedorshown_k89_whole_least_crossing_s_holds : PySem.Challenge.rw_provedorshown_k89_whole_least_crossing_s.Holds := by
  w_on; o_law; k_head; (case hw => w_witness2)
  k_fill
  refine L2.walk_of (l := PySem.Challenge.rw_provedorshown_k89_whole_least_crossing_s) (n := 63) (k := 14) (x := "script") (CX := fun _ => L2.CX0) (sp := fun w => K89.spLaw _) rfl (by decide) rfl ⟨rfl, by decide, by decide⟩ (fun w h Y => PySem.W.kIn_of Y) ?F (fun _ _ a ns hl _ hS => ⟨a, ns, rfl, hS, hl, fun _ => rfl⟩) (fun _ _ _ _ _ h => h)
  case F =>
    intro w mg fa h KX G hmg
    refine' K89.all_mk KX G hmg ?a1 ?l1 ?c1 ?k1 ?a2 ?l2 ?c2 ?k2 ?a3 ?l3 ?c3 ?k3 ?a4 ?l4 ?c4 ?k4 ?a5 ?l5 ?c5 ?k5 ?a6 ?l6 ?c6 ?k6 ?a7 ?l7 ?c7 ?k7 ?a8 ?l8 ?c8 ?k8 ?a9 ?l9 ?c9 ?k9 ?a10 ?l10 ?c10 ?k10 ?a11 ?l11 ?c11 ?k11 ?a12 ?l12 ?c12 ?k12 ?a13 ?l13 ?c13 ?k13 ?a14 ?l14 ?c14 ?k14 ?a15 ?l15 ?c15 ?k15 ?a16 ?l16 ?c16 ?k16 ?a17 ?l17 ?c17 ?k17 ?a18 ?l18 ?c18 ?k18 ?a19 ?l19 ?c19 ?k19 ?a20 ?l20 ?c20 ?k20 ?a21 ?l21 ?c21 ?k21 ?a22 ?l22 ?c22 ?k22 ?a23 ?l23 ?c23 ?k23 ?a24 ?l24 ?c24 ?k24 ?a25 ?l25 ?c25 ?k25 ?a26 ?l26 ?c26 ?k26 ?a27 ?l27 ?c27 ?k27 ?a28 ?l28 ?c28 ?k28 ?z_ValueError ?z_abs ?z_all ?z_any ?z_bool ?z_dict ?z_int ?z_isinstance ?z_len ?z_list ?z_range ?z_set ?z_sorted ?z_str ?z_tuple ?n_MOST_CROSSED ?a_BadLogic ?a_BadSheet ?a_BadClaim ?a_BadModel ?a_BadPaper ?a_BadTerm ?a_BadEdit ?a_BadValue ?a_BadText ?a_BadSize ?a_TooMany ?a_NotBoxed ?a_NotProved ?a_NotThere ?a_NothingToUndo ?a_NothingToRedo ?a_CourtError ?t_BadLogic ?h_BadLogic ?t_BadSheet ?h_BadSheet ?t_BadClaim ?h_BadClaim ?t_BadModel ?h_BadModel ?t_BadPaper ?h_BadPaper ?t_BadTerm ?h_BadTerm ?t_BadEdit ?h_BadEdit ?t_BadValue ?h_BadValue ?t_BadText ?h_BadText ?t_BadSize ?h_BadSize ?t_TooMany ?h_TooMany ?t_NotBoxed ?h_NotBoxed ?t_NotProved ?h_NotProved ?t_NotThere ?h_NotThere ?t_NothingToUndo ?h_NothingToUndo ?t_NothingToRedo ?h_NothingToRedo ?t_CourtError ?h_CourtError ?bC ?spc ?tkc ?s_BadValue_BadLogic ?s_BadValue_BadSheet ?s_BadValue_BadClaim ?s_BadValue_BadModel ?s_BadValue_BadPaper ?s_BadValue_BadTerm ?s_BadValue_BadEdit ?s_BadValue_BadValue ?s_BadValue_BadText ?s_BadValue_BadSize ?s_BadValue_TooMany ?s_BadValue_NotBoxed ?s_BadValue_NotProved ?s_BadValue_NotThere ?s_BadValue_NothingToUndo ?s_BadValue_NothingToRedo ?s_BadValue_CourtError ?vBadValue ?bBadValue ?gaBadValue ?ggBadValue ?gcBadValue ?moBadValue ?kpBadValue ?xSBadValue ?saBadValue ?noBadValue ?iBadValue ?tIBadValue ?lEBadValue ?cEBadValue ?kEBadValue
    (case a1 => k_is)
    (case l1 => k_is)
    (case c1 => k_is)
    (case k1 => k_is)
    (case a2 => k_is)
    (case l2 => k_is)
    (case c2 => k_is)
    (case k2 => k_is)
    (case a3 => k_is)
    (case l3 => k_is)
    (case c3 => k_is)
    (case k3 => k_is)
    (case a4 => k_is)
    (case l4 => k_is)
    (case c4 => k_is)
    (case k4 => k_is)
    (case a5 => k_is)
    (case l5 => k_is)
    (case c5 => k_is)
    (case k5 => k_is)
    (case a6 => k_is)
    (case l6 => k_is)
    (case c6 => k_is)
    (case k6 => k_is)
    (case a7 => k_is)
    (case l7 => k_is)
    (case c7 => k_is)
    (case k7 => k_is)
    (case a8 => k_is)
    (case l8 => k_is)
    (case c8 => k_is)
    (case k8 => k_is)
    (case a9 => k_is)
    (case l9 => k_is)
    (case c9 => k_is)
    (case k9 => k_is)
    (case a10 => k_is)
    (case l10 => k_is)
    (case c10 => k_is)
    (case k10 => k_is)
    (case a11 => k_is)
    (case l11 => k_is)
    (case c11 => k_is)
    (case k11 => k_is)
    (case a12 => k_is)
    (case l12 => k_is)
    (case c12 => k_is)
    (case k12 => k_is)
    (case a13 => k_is)
    (case l13 => k_is)
    (case c13 => k_is)
    (case k13 => k_is)
    (case a14 => k_is)
    (case l14 => k_is)
    (case c14 => k_is)
    (case k14 => k_is)
    (case a15 => k_is)
    (case l15 => k_is)
    (case c15 => k_is)
    (case k15 => k_is)
    (case a16 => k_is)
    (case l16 => k_is)
    (case c16 => k_is)
    (case k16 => k_is)
    (case a17 => k_is)
    (case l17 => k_is)
    (case c17 => k_is)
    (case k17 => k_is)
    (case a18 => k_is)
    (case l18 => k_is)
    (case c18 => k_is)
    (case k18 => k_is)
    (case a19 => k_is)
    (case l19 => k_is)
    (case c19 => k_is)
    (case k19 => k_is)
    (case a20 => k_is)
    (case l20 => k_is)
    (case c20 => k_is)
    (case k20 => k_is)
    (case a21 => k_is)
    (case l21 => k_is)
    (case c21 => k_is)
    (case k21 => k_is)
    (case a22 => k_is)
    (case l22 => k_is)
    (case c22 => k_is)
    (case k22 => k_is)
    (case a23 => k_is)
    (case l23 => k_is)
    (case c23 => k_is)
    (case k23 => k_is)
    (case a24 => k_is)
    (case l24 => k_is)
    (case c24 => k_is)
    (case k24 => k_is)
    (case a25 => k_is)
    (case l25 => k_is)
    (case c25 => k_is)
    (case k25 => k_is)
    (case a26 => k_is)
    (case l26 => k_is)
    (case c26 => k_is)
    (case k26 => k_is)
    (case a27 => k_is)
    (case l27 => k_is)
    (case c27 => k_is)
    (case k27 => k_is)
    (case a28 => k_is)
    (case l28 => k_is)
    (case c28 => k_is)
    (case k28 => k_is)
    (case z_ValueError => k_is)
    (case z_abs => k_is)
    (case z_all => k_is)
    (case z_any => k_is)
    (case z_bool => k_is)
    (case z_dict => k_is)
    (case z_int => k_is)
    (case z_isinstance => k_is)
    (case z_len => k_is)
    (case z_list => k_is)
    (case z_range => k_is)
    (case z_set => k_is)
    (case z_sorted => k_is)
    (case z_str => k_is)
    (case z_tuple => k_is)
    (case n_MOST_CROSSED => k_is)
    (case a_BadLogic => k_is)
    (case a_BadSheet => k_is)
    (case a_BadClaim => k_is)
    (case a_BadModel => k_is)
    (case a_BadPaper => k_is)
    (case a_BadTerm => k_is)
    (case a_BadEdit => k_is)
    (case a_BadValue => k_is)
    (case a_BadText => k_is)
    (case a_BadSize => k_is)
    (case a_TooMany => k_is)
    (case a_NotBoxed => k_is)
    (case a_NotProved => k_is)
    (case a_NotThere => k_is)
    (case a_NothingToUndo => k_is)
    (case a_NothingToRedo => k_is)
    (case a_CourtError => k_is)
    (case t_BadLogic => k_is)
    (case h_BadLogic => k_is)
    (case t_BadSheet => k_is)
    (case h_BadSheet => k_is)
    (case t_BadClaim => k_is)
    (case h_BadClaim => k_is)
    (case t_BadModel => k_is)
    (case h_BadModel => k_is)
    (case t_BadPaper => k_is)
    (case h_BadPaper => k_is)
    (case t_BadTerm => k_is)
    (case h_BadTerm => k_is)
    (case t_BadEdit => k_is)
    (case h_BadEdit => k_is)
    (case t_BadValue => k_is)
    (case h_BadValue => k_is)
    (case t_BadText => k_is)
    (case h_BadText => k_is)
    (case t_BadSize => k_is)
    (case h_BadSize => k_is)
    (case t_TooMany => k_is)
    (case h_TooMany => k_is)
    (case t_NotBoxed => k_is)
    (case h_NotBoxed => k_is)
    (case t_NotProved => k_is)
    (case h_NotProved => k_is)
    (case t_NotThere => k_is)
    (case h_NotThere => k_is)
    (case t_NothingToUndo => k_is)
    (case h_NothingToUndo => k_is)
    (case t_NothingToRedo => k_is)
    (case h_NothingToRedo => k_is)
    (case t_CourtError => k_is)
    (case h_CourtError => k_is)
    (case bC => k_is)
    (case spc => k_is)
    (case tkc => k_is)
    (case s_BadValue_BadLogic => k_is)
    (case s_BadValue_BadSheet => k_is)
    (case s_BadValue_BadClaim => k_is)
    (case s_BadValue_BadModel => k_is)
    (case s_BadValue_BadPaper => k_is)
    (case s_BadValue_BadTerm => k_is)
    (case s_BadValue_BadEdit => k_is)
    (case s_BadValue_BadValue => k_is)
    (case s_BadValue_BadText => k_is)
    (case s_BadValue_BadSize => k_is)
    (case s_BadValue_TooMany => k_is)
    (case s_BadValue_NotBoxed => k_is)
    (case s_BadValue_NotProved => k_is)
    (case s_BadValue_NotThere => k_is)
    (case s_BadValue_NothingToUndo => k_is)
    (case s_BadValue_NothingToRedo => k_is)
    (case s_BadValue_CourtError => k_is)
    (case vBadValue => k_is)
    (case bBadValue => k_is)
    (case gaBadValue => k_is)
    (case ggBadValue => k_is)
    (case gcBadValue => k_is)
    (case moBadValue => k_is)
    (case kpBadValue => k_is)
    (case xSBadValue => exact ⟨_, _, _, _, _, _, _, _, _, _, _, _, _, _, _, by k_is, by decide +kernel⟩)
    (case saBadValue => k_is)
    (case noBadValue => k_is)
    (case iBadValue => k_is)
    (case tIBadValue => k_is)
    (case lEBadValue => k_is)
    (case cEBadValue => k_is)
    (case kEBadValue => k_is)

