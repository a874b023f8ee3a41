import PyProof.Rows.All
import Wide.All
import OpenK.AllK
import Wide.FinOn
import HandS.ForMost
import HandS.IsInst
import HandS.Codes
import HandS.More
import HandS.TupMul
import HandS.ExcCtx
import HandS.Hot
import HandS.HotCalls
import HandS.ExcIs
import HandS.ExcField
import HandS.ExcInit
import HandS.SetFor
import HandS.Deep
import HandS.Style
import HandS.SortInts
import HandS.Strs
import HandS.TupSets
import HandS.DictComp
import PySem.Challenge.RW_provedorshown_k60_whole_read_claims
import HandS.CallLocal
import HandS.TupAny
set_option Elab.async false
set_option linter.all false
set_option maxRecDepth 100000
set_option maxHeartbeats 4000000
/-! LLib: what the proofs of several laws share. Heaps that grow while the addresses of M may change; plain data; the spec of a sheet. -/
namespace LL
open PySem PySem.Spec PyProof.Rows L2

theorem iteB {b : Bool} {A B : Prop} (h1 : b = true → A) (h2 : b = false → B) : if b = true then A else B := by
  cases b with
  | true => rw [if_pos rfl]; exact h1 rfl
  | false => rw [if_neg Bool.false_ne_true]; exact h2 rfl
theorem iteY {b : Bool} {A B : Prop} (hb : b = true) (h : A) : if b = true then A else B := by rw [if_pos hb]; exact h
theorem iteN {b : Bool} {A B : Prop} (hb : b = false) (h : B) : if b = true then A else B := by rw [hb, if_neg Bool.false_ne_true]; exact h

/-! ### heaps -/
def Adv (M : List Addr) (H H' : Hp) : Prop := ∀ b o, b ∉ M → H b = some o → H' b = some o
section
variable {M N : List Addr} {H H1 H2 H' : Hp} {p : Addr} {o u : HO}
theorem Adv.refl (M : List Addr) (H : Hp) : Adv M H H := fun _ _ _ h => h
theorem Adv.trans (a : Adv M H H1) (b : Adv M H1 H2) : Adv M H H2 := fun c o hc h => b c o hc (a c o hc h)
theorem Adv.more (a : Adv M H H') (h : ∀ b ∈ M, b ∈ N) : Adv N H H' := fun c o hc e => a c o (fun z => hc (h c z)) e
theorem Adv.new (h : H p = none) : Adv M H (upd H p o) := fun b u _ e => by
  rw [upd_ne (ne_of_none e h)]
  exact e
theorem Adv.set (h : p ∈ M) : Adv M H (upd H p o) := fun b u hb e => by
  rw [upd_ne (fun z => hb (by rw [z]; exact h))]
  exact e
theorem Adv.newT (a : Adv M H H1) (h : H1 p = none) : Adv M H (upd H1 p o) := a.trans (Adv.new h)
theorem Adv.setT (a : Adv M H H1) (h : p ∈ M) : Adv M H (upd H1 p o) := a.trans (Adv.set h)
/-- a change at an address that H does not know -/
theorem Adv.mut (a : Adv M H H1) (h : H p = none) : Adv M H (upd H1 p o) := fun b u hb e => by
  rw [upd_ne (ne_of_none e h)]
  exact a b u hb e
theorem Adv.free (a : Adv M H H') (hp : p ∉ M) (h : H' p = none) : H p = none := by
  cases q : H p with
  | none => rfl
  | some o =>
    rw [a p o hp q] at h
    cases h
theorem Adv.same (a : Adv [] H H') : Same H H' := fun b o e => a b o (by simp) e
theorem Adv.ofSame (a : Same H H') : Adv M H H' := fun b o _ e => a b o e
theorem Adv.get (a : Adv M H H') (e : H p = some o) (hp : p ∉ M) : H' p = some o := a p o hp e
/-- M's last address is new: it need not be told -/
theorem Adv.drop (a : Adv (p :: M) H H') (h : H p = none) : Adv M H H' := fun b u hb e => a b u (fun z => by
  rcases List.mem_cons.mp z with z | z
  · rw [z, h] at e; cases e
  · exact hb z) e
end
theorem ne_lst_ints {l : Addr} {c k : Int} {ns : List Int} : HO.lst [V.ref l, .int c, .int k] ≠ HO.lst (ns.map V.int) := by
  intro e
  have e2 : [V.ref l, .int c, .int k] = ns.map V.int := by injection e
  cases ns with
  | nil => cases e2
  | cons n r =>
    rw [List.map_cons] at e2
    injection e2 with h _
    cases h

/-! ### plain data -/
/-- the tuples of the written part (they never change), and how a key of parts is hashed -/
class KW where
  tp : Addr → List V → Prop
  hs : List Key → Int
/-- a tuple: tracked, or one of the written part -/
def Tp [KW] (M : List Addr) (H : Hp) (a : Addr) (vs : List V) : Prop := (a ∉ M ∧ H a = some (.tup vs)) ∨ KW.tp a vs
section
variable [KW]
mutual
def Is (M : List Addr) (H : Hp) : PyData → V → Prop
  | .none, v => v = .non
  | .bool b, v => v = .bl b
  | .int i, v => v = .int i
  | .str x, v => v = .str x
  | .list ds, v => ∃ a vs, v = .ref a ∧ a ∉ M ∧ H a = some (.lst vs) ∧ IsDs M H ds vs
  | .tuple ds, v => ∃ a vs, v = .ref a ∧ Tp M H a vs ∧ IsDs M H ds vs
  | .dict kvs, v => kvs = [] ∧ ∃ a, v = .ref a ∧ a ∉ M ∧ H a = some (.dK [])
def IsDs (M : List Addr) (H : Hp) : List PyData → List V → Prop
  | [], vs => vs = []
  | d :: ds, vs => ∃ v r, vs = v :: r ∧ Is M H d v ∧ IsDs M H ds r
end
section
variable {M N : List Addr} {H H' : Hp} {p : Addr}
theorem Tp.imp (h : ∀ b o, b ∉ M → H b = some o → b ∉ N ∧ H' b = some o) {a : Addr} {vs : List V} (x : Tp M H a vs) : Tp N H' a vs := by
  rcases x with ⟨na, ha⟩ | x
  · exact .inl ⟨(h a _ na ha).1, (h a _ na ha).2⟩
  · exact .inr x
theorem Tp.adv {a : Addr} {vs : List V} (x : Tp M H a vs) (e : Adv M H H') : Tp M H' a vs := x.imp fun b o hb z => ⟨hb, e b o hb z⟩
theorem Tp.less {a : Addr} {vs : List V} (x : Tp M H a vs) (h : ∀ b ∈ N, b ∈ M) : Tp N H a vs := x.imp fun b o hb z => ⟨fun y => hb (h b y), z⟩
theorem Tp.fresh {a : Addr} {vs : List V} (x : Tp M H a vs) (h : H p = none) : Tp (p :: M) H a vs := x.imp fun b o hb e => ⟨fun z => (List.mem_cons.mp z).elim (ne_of_none e h) hb, e⟩
theorem Tp.of {a : Addr} {vs : List V} (h : H a = some (.tup vs)) (na : a ∉ M) : Tp M H a vs := .inl ⟨na, h⟩
mutual
theorem Is.imp (h : ∀ b o, b ∉ M → H b = some o → b ∉ N ∧ H' b = some o) : ∀ (d : PyData) (v : V), Is M H d v → Is N H' d v
  | .none, v, x => by unfold Is at x ⊢; exact x
  | .bool _, v, x => by unfold Is at x ⊢; exact x
  | .int _, v, x => by unfold Is at x ⊢; exact x
  | .str _, v, x => by unfold Is at x ⊢; exact x
  | .list ds, v, x => by
    unfold Is at x ⊢
    obtain ⟨a, vs, rfl, na, ha, hs⟩ := x
    exact ⟨a, vs, rfl, (h a _ na ha).1, (h a _ na ha).2, IsDs.imp h ds vs hs⟩
  | .tuple ds, v, x => by
    unfold Is at x ⊢
    obtain ⟨a, vs, rfl, ha, hs⟩ := x
    exact ⟨a, vs, rfl, ha.imp h, IsDs.imp h ds vs hs⟩
  | .dict kvs, v, x => by
    unfold Is at x ⊢
    obtain ⟨rfl, a, rfl, na, ha⟩ := x
    exact ⟨rfl, a, rfl, (h a _ na ha).1, (h a _ na ha).2⟩
theorem IsDs.imp (h : ∀ b o, b ∉ M → H b = some o → b ∉ N ∧ H' b = some o) : ∀ (ds : List PyData) (vs : List V), IsDs M H ds vs → IsDs N H' ds vs
  | [], vs, x => by unfold IsDs at x ⊢; exact x
  | d :: ds, vs, x => by
    unfold IsDs at x ⊢
    obtain ⟨v, r, rfl, h1, h2⟩ := x
    exact ⟨v, r, rfl, Is.imp h d v h1, IsDs.imp h ds r h2⟩
end
theorem Is.adv {d : PyData} {v : V} (x : Is M H d v) (a : Adv M H H') : Is M H' d v := Is.imp (fun b o hb e => ⟨hb, a b o hb e⟩) d v x
theorem IsDs.adv {ds : List PyData} {vs : List V} (x : IsDs M H ds vs) (a : Adv M H H') : IsDs M H' ds vs := IsDs.imp (fun b o hb e => ⟨hb, a b o hb e⟩) ds vs x
theorem Is.less {d : PyData} {v : V} (x : Is M H d v) (h : ∀ b ∈ N, b ∈ M) : Is N H d v := Is.imp (fun b o hb e => ⟨fun z => hb (h b z), e⟩) d v x
theorem IsDs.less {ds : List PyData} {vs : List V} (x : IsDs M H ds vs) (h : ∀ b ∈ N, b ∈ M) : IsDs N H ds vs := IsDs.imp (fun b o hb e => ⟨fun z => hb (h b z), e⟩) ds vs x
theorem Is.fresh {d : PyData} {v : V} (x : Is M H d v) (h : H p = none) : Is (p :: M) H d v := Is.imp (fun b o hb e => ⟨fun z => (List.mem_cons.mp z).elim (ne_of_none e h) hb, e⟩) d v x
theorem IsDs.fresh {ds : List PyData} {vs : List V} (x : IsDs M H ds vs) (h : H p = none) : IsDs (p :: M) H ds vs := IsDs.imp (fun b o hb e => ⟨fun z => (List.mem_cons.mp z).elim (ne_of_none e h) hb, e⟩) ds vs x
theorem IsDs.len : ∀ {ds : List PyData} {vs : List V}, IsDs M H ds vs → vs.length = ds.length
  | [], vs, x => by unfold IsDs at x; rw [x]; rfl
  | d :: ds, vs, x => by
    unfold IsDs at x
    obtain ⟨v, r, rfl, _, h2⟩ := x
    rw [List.length_cons, List.length_cons, h2.len]
theorem IsDs.get : ∀ {ds : List PyData} {vs : List V} {i : Nat} {d : PyData}, IsDs M H ds vs → ds[i]? = some d → ∃ v, vs[i]? = some v ∧ Is M H d v
  | [], vs, i, d, x, e => by simp at e
  | c :: ds, vs, 0, d, x, e => by
    unfold IsDs at x
    obtain ⟨v, r, rfl, h1, h2⟩ := x
    have e' : c = d := Option.some.inj e
    subst e'
    exact ⟨v, rfl, h1⟩
  | c :: ds, vs, i + 1, d, x, e => by
    unfold IsDs at x
    obtain ⟨v, r, rfl, h1, h2⟩ := x
    exact h2.get (i := i) (by simpa using e)
theorem IsDs.getV : ∀ {ds : List PyData} {vs : List V} {i : Nat} {v : V}, IsDs M H ds vs → vs[i]? = some v → ∃ d, ds[i]? = some d ∧ Is M H d v := fun {ds vs i v} x e => by
  have hi : i < ds.length := by rw [← x.len]; exact (List.getElem?_eq_some_iff.mp e).1
  obtain ⟨w, e2, h⟩ := x.get (List.getElem?_eq_getElem hi)
  rw [e] at e2
  cases e2
  exact ⟨_, List.getElem?_eq_getElem hi, h⟩
theorem IsDs.app : ∀ {ds es : List PyData} {vs ws : List V}, IsDs M H ds vs → IsDs M H es ws → IsDs M H (ds ++ es) (vs ++ ws)
  | [], es, vs, ws, x, y => by unfold IsDs at x; subst x; exact y
  | d :: ds, es, vs, ws, x, y => by
    unfold IsDs at x
    obtain ⟨v, r, rfl, h1, h2⟩ := x
    show IsDs M H (d :: (ds ++ es)) (v :: (r ++ ws))
    unfold IsDs
    exact ⟨v, r ++ ws, rfl, h1, h2.app y⟩
theorem IsDs.one {d : PyData} {v : V} (x : Is M H d v) : IsDs M H [d] [v] := by
  unfold IsDs
  exact ⟨v, [], rfl, x, by unfold IsDs; rfl⟩
theorem IsDs.nil : IsDs M H [] [] := by unfold IsDs; rfl
theorem IsDs.cons {d : PyData} {v : V} {ds : List PyData} {vs : List V} (x : Is M H d v) (y : IsDs M H ds vs) : IsDs M H (d :: ds) (v :: vs) := by
  unfold IsDs
  exact ⟨v, vs, rfl, x, y⟩
theorem IsDs.set : ∀ {ds : List PyData} {vs : List V} {i : Nat} {d : PyData} {v : V}, IsDs M H ds vs → Is M H d v → IsDs M H (ds.set i d) (vs.set i v)
  | [], vs, i, d, v, x, y => by unfold IsDs at x; subst x; exact .nil
  | c :: ds, vs, 0, d, v, x, y => by
    unfold IsDs at x
    obtain ⟨w, r, rfl, h1, h2⟩ := x
    exact .cons y h2
  | c :: ds, vs, i + 1, d, v, x, y => by
    unfold IsDs at x
    obtain ⟨w, r, rfl, h1, h2⟩ := x
    exact .cons h1 (h2.set y)
theorem IsDs.drop : ∀ {ds : List PyData} {vs : List V} (i : Nat), IsDs M H ds vs → IsDs M H (ds.drop i) (vs.drop i)
  | ds, vs, 0, x => x
  | [], vs, i + 1, x => by unfold IsDs at x; subst x; exact .nil
  | c :: ds, vs, i + 1, x => by
    unfold IsDs at x
    obtain ⟨w, r, rfl, h1, h2⟩ := x
    exact h2.drop i
theorem Is.int {i : Int} : Is M H (.int i) (.int i) := by unfold Is; rfl
theorem Is.str {x : Str} : Is M H (.str x) (.str x) := by unfold Is; rfl
theorem Is.bl {b : Bool} : Is M H (.bool b) (.bl b) := by unfold Is; rfl
theorem Is.non : Is M H .none .non := by unfold Is; rfl
theorem Is.lst {a : Addr} {ds : List PyData} {vs : List V} (h : H a = some (.lst vs)) (hn : a ∉ M) (x : IsDs M H ds vs) : Is M H (.list ds) (.ref a) := by
  unfold Is
  exact ⟨a, vs, rfl, hn, h, x⟩
theorem Is.tup {a : Addr} {ds : List PyData} {vs : List V} (h : H a = some (.tup vs)) (hn : a ∉ M) (x : IsDs M H ds vs) : Is M H (.tuple ds) (.ref a) := by
  unfold Is
  exact ⟨a, vs, rfl, .inl ⟨hn, h⟩, x⟩
theorem Is.tp {a : Addr} {ds : List PyData} {vs : List V} (h : Tp M H a vs) (x : IsDs M H ds vs) : Is M H (.tuple ds) (.ref a) := by
  unfold Is
  exact ⟨a, vs, rfl, h, x⟩
theorem Is.dic {a : Addr} (h : H a = some (.dK [])) (hn : a ∉ M) : Is M H (.dict []) (.ref a) := by
  unfold Is
  exact ⟨rfl, a, rfl, hn, h⟩
theorem Is.intE {i : Int} {v : V} (x : Is M H (.int i) v) : v = .int i := by unfold Is at x; exact x
theorem Is.strE {i : Str} {v : V} (x : Is M H (.str i) v) : v = .str i := by unfold Is at x; exact x
theorem Is.blE {i : Bool} {v : V} (x : Is M H (.bool i) v) : v = .bl i := by unfold Is at x; exact x
theorem Is.nonE {v : V} (x : Is M H .none v) : v = .non := by unfold Is at x; exact x
theorem Is.lstE {ds : List PyData} {v : V} (x : Is M H (.list ds) v) : ∃ a vs, v = .ref a ∧ a ∉ M ∧ H a = some (.lst vs) ∧ IsDs M H ds vs := by unfold Is at x; exact x
theorem Is.tupE {ds : List PyData} {v : V} (x : Is M H (.tuple ds) v) : ∃ a vs, v = .ref a ∧ Tp M H a vs ∧ IsDs M H ds vs := by unfold Is at x; exact x
theorem Is.dicE {kvs : List (PyData × PyData)} {v : V} (x : Is M H (.dict kvs) v) : kvs = [] ∧ ∃ a, v = .ref a ∧ a ∉ M ∧ H a = some (.dK []) := by unfold Is at x; exact x
end
end
mutual
/-- how many values a datum has, itself among them -/
def sz : PyData → Nat
  | .list ds => 1 + szL ds
  | .tuple ds => 1 + szL ds
  | _ => 1
def szL : List PyData → Nat
  | [] => 0
  | d :: ds => sz d + szL ds
end
mutual
def dep : PyData → Nat
  | .list ds => 1 + depL ds
  | .tuple ds => 1 + depL ds
  | _ => 0
def depL : List PyData → Nat
  | [] => 0
  | d :: ds => max (dep d) (depL ds)
end
theorem sz_pos : ∀ d : PyData, 1 ≤ sz d
  | .none => by unfold sz; exact Nat.le_refl _
  | .bool _ => by unfold sz; exact Nat.le_refl _
  | .int _ => by unfold sz; exact Nat.le_refl _
  | .str _ => by unfold sz; exact Nat.le_refl _
  | .list ds => by unfold sz; omega
  | .tuple ds => by unfold sz; omega
  | .dict _ => by unfold sz; exact Nat.le_refl _
theorem szL_nil : szL [] = 0 := by rw [szL]
theorem szL_cons (d : PyData) (ds : List PyData) : szL (d :: ds) = sz d + szL ds := by rw [szL]
theorem szL_app : ∀ ds es : List PyData, szL (ds ++ es) = szL ds + szL es
  | [], es => by rw [List.nil_append, szL_nil, Nat.zero_add]
  | d :: ds, es => by rw [List.cons_append, szL_cons, szL_cons, szL_app ds es, Nat.add_assoc]
theorem dep_mem : ∀ {ds : List PyData} {d : PyData}, d ∈ ds → dep d ≤ depL ds
  | c :: ds, d, h => by
    unfold depL
    rcases List.mem_cons.mp h with e | h
    · rw [e]; exact Nat.le_max_left _ _
    · exact Nat.le_trans (dep_mem h) (Nat.le_max_right _ _)

/-! ### the stream of draws -/
/-- a stream stands at s: the script's copy (none of M), the cell's rest, the next cell's number -/
def StrAt (M : List Addr) (H : Hp) (s : Addr) : Prop := ∃ (l : Addr) (ns : List Int) (c k : Int), H s = some (.lst [V.ref l, .int c, .int k]) ∧ H l = some (.lst (ns.map V.int)) ∧ 0 ≤ c ∧ 0 ≤ k ∧ l ∉ M
section
variable {M N : List Addr} {H H' : Hp} {s p : Addr}
theorem StrAt.adv (x : StrAt M H s) (a : Adv N H H') (hs : s ∉ N) (hn : ∀ b ∈ N, b ∈ M) : StrAt M H' s := by
  obtain ⟨l, ns, c, k, h1, h2, h3, h4, h5⟩ := x
  exact ⟨l, ns, c, k, a _ _ hs h1, a _ _ (fun z => h5 (hn l z)) h2, h3, h4, h5⟩
theorem StrAt.same (x : StrAt M H s) (a : Adv [] H H') : StrAt M H' s := x.adv a (by simp) (fun b z => by simp at z)
theorem StrAt.fresh (x : StrAt M H s) (h : H p = none) : StrAt (p :: M) H s := by
  obtain ⟨l, ns, c, k, h1, h2, h3, h4, h5⟩ := x
  exact ⟨l, ns, c, k, h1, h2, h3, h4, fun z => (List.mem_cons.mp z).elim (ne_of_none h2 h) h5⟩
theorem StrAt.less (x : StrAt M H s) (h : ∀ b ∈ N, b ∈ M) : StrAt N H s := by
  obtain ⟨l, ns, c, k, h1, h2, h3, h4, h5⟩ := x
  exact ⟨l, ns, c, k, h1, h2, h3, h4, fun z => h5 (h l z)⟩
theorem StrAt.here (x : StrAt M H s) : H s ≠ none := by
  obtain ⟨l, ns, c, k, h1, _⟩ := x
  rw [h1]
  simp
end

/-! ### defs -/
/-- a def of the text where it stands behind the top -/
structure Df (K : PySem.W.Frag) (mg : Str → Option Value) (x : Str) (st : Stmt) (ps : List Str) where
  f : Addr
  fd : FuncData
  F : Fun K x x st f fd
  m : mg x = some (.ref f)
  b : Binds K fd ps []
theorem ix_or {X : Cx} {r r' : R2} (h : IxR X r) (h' : IxR X r') : IxR X (fun x y H Q => r x y H Q ∨ r' x y H Q) := by
  intro value slice pins s σ H x y v u Q I rx ry q e
  rcases q with q | q
  · exact h value slice pins s σ H x y v u Q I rx ry q e
  · exact h' value slice pins s σ H x y v u Q I rx ry q e
theorem call_or {X : Cx} {f : Value} {r r' : List V → Hp → VK → Prop} (h : CallR X f r) (h' : CallR X f r') : CallR X f (fun xs H Q => r xs H Q ∨ r' xs H Q) := by
  intro pins s σ H xs us Q I rx q
  rcases q with q | q
  · exact h pins s σ H xs us Q I rx q
  · exact h' pins s σ H xs us Q I rx q
theorem ix_any {X : Cx} (K : PySem.W.Frag) (h : X.K = K) : IxR X (fun x y H Q => rIxL K x y H Q ∨ rIxT K x y H Q) := by
  subst h
  exact ix_or ix_list ix_tup
end LL

set_option Elab.async false
set_option linter.all false
set_option maxRecDepth 100000
set_option maxHeartbeats 4000000
/-! LSpec: kinds of data; what a node and a sheet are -/
namespace LL
open PySem PySem.Spec PyProof.Rows L2
def tyN : PyData → String
  | .none => "NoneType"
  | .bool _ => "bool"
  | .int _ => "int"
  | .str _ => "str"
  | .list _ => "list"
  | .tuple _ => "tuple"
  | .dict _ => "dict"
/-- what the written part says of the tuples and of the hash -/
structure KWOk [KW] (K : PySem.W.Frag) (w : World) : Prop where
  tp : ∀ a vs, KW.tp a vs → ∃ (o : Obj) (its : Array Value) (n : Nat), K.lookup a = some o ∧ o.cls = .type "tuple" ∧ o.data = .seq its n ∧ its.size ≤ sizeLine ∧ Vals vs its.toList
  hs : ∀ (P : Program) (ks : List Key), KW.hs ks = (tupleKind (mixKind P w)).hash ks
section
variable [KW]
theorem Tp.sq {K : PySem.W.Frag} {w : World} (W : KWOk K w) {M : List Addr} {H : Hp} {a : Addr} {vs : List V} (x : Tp M H a vs) : SqT K H a vs := by
  rcases x with ⟨_, h⟩ | h
  · exact SqT.of h
  · exact .inr (W.tp a vs h)
theorem Is.ty {K : PySem.W.Frag} {w : World} (W : KWOk K w) {M : List Addr} {H : Hp} : ∀ {d : PyData} {v : V}, Is M H d v → TyX K H v (.type (tyN d))
  | .none, v, x => by rw [x.nonE]; exact .base .non
  | .bool _, v, x => by rw [x.blE]; exact .base (.bl _)
  | .int _, v, x => by rw [x.intE]; exact .base (.int _)
  | .str _, v, x => by rw [x.strE]; exact .base (.str _)
  | .list _, v, x => by
    obtain ⟨a, vs, rfl, _, h, _⟩ := x.lstE
    exact .base (.lst h)
  | .tuple _, v, x => by
    obtain ⟨a, vs, rfl, h, _⟩ := x.tupE
    rcases h with ⟨_, h⟩ | h
    · exact .base (.tup h)
    · obtain ⟨o, its, n, h1, h2, _⟩ := W.tp a vs h
      exact .kTuple h1 h2
  | .dict _, v, x => by
    obtain ⟨_, a, rfl, _, h⟩ := x.dicE
    exact .base (.dK h)
end
/-- isinstance(v, one of the six built-in kinds) -/
def kitD (d : PyData) (n : String) : Bool := match d with
  | .bool _ => n == "bool" || n == "int"
  | d => n == tyN d
theorem kit_one {K : PySem.W.Frag} (d : PyData) (n : String) (h : n = "int" ∨ n = "bool" ∨ n = "str" ∨ n = "list" ∨ n = "tuple" ∨ n = "dict") : PySem.W.kitOne K (.type (tyN d)) (.type n) = some (kitD d n) := by
  refine kit_ty ?_
  have fin : ∀ t ∈ ["NoneType", "bool", "int", "str", "list", "tuple", "dict"], ∀ n ∈ ["int", "bool", "str", "list", "tuple", "dict"], kitB t n = some (if t = "bool" then (n == "bool" || n == "int") else n == t) := by decide +kernel
  have hn : n ∈ ["int", "bool", "str", "list", "tuple", "dict"] := by simpa using h
  cases d with
  | bool b => exact fin "bool" (by simp) n hn
  | none => exact fin "NoneType" (by simp) n hn
  | int i => exact fin "int" (by simp) n hn
  | str i => exact fin "str" (by simp) n hn
  | list i => exact fin "list" (by simp) n hn
  | tuple i => exact fin "tuple" (by simp) n hn
  | dict i => exact fin "dict" (by simp) n hn
theorem k_int {K : PySem.W.Frag} (d : PyData) : PySem.W.kitOne K (.type (tyN d)) (.type "int") = some (kitD d "int") := kit_one d "int" (by simp)
theorem k_bool {K : PySem.W.Frag} (d : PyData) : PySem.W.kitOne K (.type (tyN d)) (.type "bool") = some (kitD d "bool") := kit_one d "bool" (by simp)
theorem k_str {K : PySem.W.Frag} (d : PyData) : PySem.W.kitOne K (.type (tyN d)) (.type "str") = some (kitD d "str") := kit_one d "str" (by simp)
theorem k_list {K : PySem.W.Frag} (d : PyData) : PySem.W.kitOne K (.type (tyN d)) (.type "list") = some (kitD d "list") := kit_one d "list" (by simp)
theorem k_tuple {K : PySem.W.Frag} (d : PyData) : PySem.W.kitOne K (.type (tyN d)) (.type "tuple") = some (kitD d "tuple") := kit_one d "tuple" (by simp)
theorem k_dict {K : PySem.W.Frag} (d : PyData) : PySem.W.kitOne K (.type (tyN d)) (.type "dict") = some (kitD d "dict") := kit_one d "dict" (by simp)
/-! ### nodes -/
def isNum (lo hi : Int) : PyData → Bool
  | .int i => decide (lo ≤ i) && decide (i ≤ hi)
  | _ => false
/-- how many items a node of this word has -/
def nItems (w : Str) : Option Nat :=
  if w = "letter" then some 2 else if w = "no" then some 1 else if w = "and" then some 3 else if w = "or" then some 3 else if w = "if" then some 3 else if w = "box" then some 2 else none
def nodeB (boxed : Bool) (row : Int) : PyData → Bool
  | .tuple (.str w :: ps) => if nItems w = some (ps.length + 1) then (if w = "letter" then ps.all (isNum 0 7) else if w = "box" && !boxed then false else ps.all (isNum 0 (row - 1))) else false
  | _ => false
/-- a node as a key -/
def keyD : PyData → Key
  | .int i => .inl i
  | .str x => .inr x
  | _ => .inl 0
def keysD : PyData → List Key
  | .tuple ds => ds.map keyD
  | _ => []
/-- the first wrong row behind row at, whose earlier nodes are seen -/
def memK (k : List Key) (l : List (List Key)) : Bool := l.any fun x => decide (x = k)
def wrongF (most : Int) (boxed : Bool) : Int → List (List Key) → List PyData → Option Int
  | _, _, [] => none
  | at_, seen, d :: ds => if at_ < most then (if nodeB boxed at_ d then (if memK (keysD d) seen = true then some at_ else wrongF most boxed (at_ + 1) (seen ++ [keysD d]) ds) else some at_) else some at_
def wrongD (most : Int) (boxed : Bool) : PyData → Option Int
  | .list ds => wrongF most boxed 0 [] ds
  | _ => some (-1)
section
variable [KW]
theorem node_keys {boxed : Bool} {row : Int} {d : PyData} {v : V} {M : List Addr} {H : Hp} (x : Is M H d v) (h : nodeB boxed row d = true) : ∃ a, v = .ref a ∧ Tp M H a ((keysD d).map kV) := by
  unfold nodeB at h
  split at h
  · rename_i w ps
    obtain ⟨a, vs, rfl, ha, hs⟩ := x.tupE
    refine ⟨a, rfl, ?_⟩
    have hall : ∀ p ∈ ps, ∃ i, p = .int i := by
      have num : ∀ lo hi, ps.all (isNum lo hi) = true → ∀ p ∈ ps, ∃ i, p = PyData.int i := fun lo hi hh p hp => by
        have q := List.all_eq_true.mp hh p hp
        cases p with
        | int i => exact ⟨i, rfl⟩
        | _ => cases q
      split at h
      · split at h
        · exact num _ _ h
        · split at h
          · cases h
          · exact num _ _ h
      · cases h
    have key : ∀ (ds : List PyData) (vs : List V), (∀ p ∈ ds, ∃ i, p = PyData.int i) → IsDs M H ds vs → vs = (ds.map keyD).map kV := by
      intro ds
      induction ds with
      | nil => intro vs _ y; unfold IsDs at y; exact y
      | cons c ds ih =>
        intro vs hh y
        unfold IsDs at y
        obtain ⟨u, r, rfl, h1, h2⟩ := y
        obtain ⟨i, rfl⟩ := hh c (by simp)
        rw [h1.intE, ih r (fun p hp => hh p (by simp [hp])) h2]
        rfl
    unfold IsDs at hs
    obtain ⟨u, r, rfl, h1, h2⟩ := hs
    rw [h1.strE, key ps r hall h2] at ha
    exact ha
  · cases h
end
end LL

set_option Elab.async false
set_option linter.all false
set_option maxRecDepth 100000
set_option maxHeartbeats 4000000
/-! LMore: a written dict's get; comprehensions that map -/
namespace LL
open PySem PySem.Spec PyProof.Rows L2
variable [KW]
theorem SqT.adv {K : PySem.W.Frag} {H H' : Hp} {a : Addr} {xs : List V} (e : Adv [] H H') (h : SqT K H a xs) : SqT K H' a xs := by
  rcases h with (h | ⟨o, h⟩) | h
  · exact .inl (.inl (e.same _ _ h))
  · exact .inl (.inr ⟨o, e.same _ _ h⟩)
  · exact .inr h
theorem SqL.adv {K : PySem.W.Frag} {H H' : Hp} {a : Addr} {xs : List V} (e : Adv [] H H') (h : SqL K H a xs) : SqL K H' a xs := by
  rcases h with (h | ⟨o, h⟩) | h
  · exact .inl (.inl (e.same _ _ h))
  · exact .inl (.inr ⟨o, e.same _ _ h⟩)
  · exact .inr h
/-- d.get(k), d a dict of the text's top whose keys are texts -/
def tKGet (K : PySem.W.Frag) (w : World) (td ty : TE) : TE := fun σ H Q => td σ H fun x H1 => ∃ (d : Addr) (es : Array DictEntry) (n : Nat), x = .ref d ∧ KDict K w d es n ∧
  ty σ H1 fun y H2 => ∃ (z : Str) (r : Option Value) (v : V), y = .str z ∧ PySem.W.nsIn K d z = some r ∧ RelV v (r.getD .none) ∧ Q v H2
theorem pe_kget {X : Cx} {o e : Expr} {apos cpos : Pos} {td ty : TE} (ho : PE X o td) (he : PE X e ty) (m : M1 X o "get" apos e cpos) : PE X (.Call (.Attribute o "get" apos) [e] [] cpos) (tKGet X.K X.w td ty) := by
  refine ⟨fun pins s σ H Q I h => ?_⟩
  refine wpAny_Call_method m.base m.few m.line PySem.F.plainAttrs_dict PySem.F.slot_dict_get PySem.F.type_dict_get (thn (ho.run pins s σ H _ I h) fun u s1 q => ?_)
  obtain ⟨x, H1, I1, rx, d, es, n, ex, KD, q1⟩ := q
  subst ex
  cases (show u = Value.ref d from rx)
  refine ⟨kd_type KD I1, fun b eb => ?_, ?_⟩
  · cases eb
    exact ⟨_, I1.kIn _ _ KD.at_, rfl⟩
  · rw [m.trees]
    refine Calls.callWith_builtin rfl (Calls.evalArgs_plain (Calls.spliced_cons (thn (he.run pins s1 σ H1 _ I1 q1) fun iv s2 q2 => Calls.spliced_nil ?_)))
    obtain ⟨y, H2, I2, ry, z, r, v, ey, en, rv, q3⟩ := q2
    subst ey
    obtain ⟨t, rfl⟩ := ry
    have mo := PySem.W.mapOf_K (prog := X.prog) (w := X.w) I2.kIn KD.at_ KD.lit
    refine call_meetsIn PySem.F.slot_dict_get mo.typeIs PySem.F.entry_dict_get (PySem.F.args_dict_get_2 _ _) (meets_dict_get (strKind X.prog X.w) d (PySem.strKind_is X.prog X.w z t) KD.low) ⟨_, mo, ⟨v, H2, I2.tok _, ?_, q3⟩⟩
    rw [PySem.W.find_K KD.at_ en]
    exact rv
section
variable {K : PySem.W.Frag} {a D : Addr} {xs : List V} {g : TG} {te : TE} {vs : List Nat} {σ : L2.St} {H1 : Hp} {Qd : Hp → Prop}
theorem range_map_succ (ys : Nat → V) (i : Nat) : (List.range (i + 1)).map ys = (List.range i).map ys ++ [ys i] := by rw [List.range_succ, List.map_append]; rfl
/-- [e for x in t], t a tuple: e gives ys i at its i-th item -/
theorem lc_mapT (ys : Nat → V) (hD : H1 D = none) (src : SqT K H1 a xs) (hz : xs.length ≤ 1000000)
    (hs : ∀ (i : Nat) (x : V) (H : Hp) (acc : List V) (R : V → Hp → Prop), xs[i]? = some x → Adv [] H1 H → H D = some (.lst acc) → (∀ H4, H4 D = some (.lst acc) → Adv [] H1 H4 → R (ys i) H4) → g x (wipe σ vs) H fun σ2 H2 => wipe σ2 vs = wipe σ vs ∧ te σ2 H2 R)
    (hd : ∀ H, Adv [] H1 H → H D = some (.lst ((List.range xs.length).map ys)) → Qd H) :
    ∃ W : Nat → Nat → Hp → Prop, (∃ m, W 0 m (upd H1 D (.lst []))) ∧ ∀ i m H, W i m H →
      ((Itt K a).stop i H ∧ Qd H) ∨ ((Itt K a).go i H ∧ ∃ Nx : Hp → Prop, (∀ H', Nx H' → ∃ m', m' < m ∧ W (i + 1) m' H') ∧ ∀ x H', (Itt K a).yld i H x H' → g x (wipe σ vs) H' fun σ2 H2 => wipe σ2 vs = wipe σ vs ∧ tYes σ2 H2 fun b H3 =>
        if b = true then te σ2 H3 fun y H4 => ∃ acc, H4 D = some (.lst acc) ∧ acc.length < sizeLine ∧ Nx (upd H4 D (.lst (acc ++ [y]))) else Nx H3) := by
  refine lc_tup (K := K) (a := a) (xs := xs) (tt := tYes) (fun i H => Adv [] H1 H ∧ H D = some (.lst ((List.range i).map ys))) ⟨Adv.new hD, upd_same⟩ (fun i H _ p => SqT.adv p.1 src) (fun i x H hx p => ?_) (fun H p => hd H p.1 p.2)
  have hi : i < xs.length := (List.getElem?_eq_some_iff.mp hx).1
  refine hs i x H _ (fun y H4 => ∃ acc, H4 D = some (.lst acc) ∧ acc.length < sizeLine ∧ Adv [] H1 (upd H4 D (.lst (acc ++ [y]))) ∧ (upd H4 D (.lst (acc ++ [y]))) D = some (.lst ((List.range (i + 1)).map ys))) hx p.1 p.2 (fun H4 e4 a4 => ⟨_, e4, ?_, Adv.mut a4 hD, ?_⟩)
  · rw [List.length_map, List.length_range, sizeLine_eq]
    omega
  · rw [upd_same, range_map_succ]
theorem lc_mapL (ys : Nat → V) (hD : H1 D = none) (src : SqL K H1 a xs) (hz : xs.length ≤ 1000000)
    (hs : ∀ (i : Nat) (x : V) (H : Hp) (acc : List V) (R : V → Hp → Prop), xs[i]? = some x → Adv [] H1 H → H D = some (.lst acc) → (∀ H4, H4 D = some (.lst acc) → Adv [] H1 H4 → R (ys i) H4) → g x (wipe σ vs) H fun σ2 H2 => wipe σ2 vs = wipe σ vs ∧ te σ2 H2 R)
    (hd : ∀ H, Adv [] H1 H → H D = some (.lst ((List.range xs.length).map ys)) → Qd H) :
    ∃ W : Nat → Nat → Hp → Prop, (∃ m, W 0 m (upd H1 D (.lst []))) ∧ ∀ i m H, W i m H →
      ((Itl K a).stop i H ∧ Qd H) ∨ ((Itl K a).go i H ∧ ∃ Nx : Hp → Prop, (∀ H', Nx H' → ∃ m', m' < m ∧ W (i + 1) m' H') ∧ ∀ x H', (Itl K a).yld i H x H' → g x (wipe σ vs) H' fun σ2 H2 => wipe σ2 vs = wipe σ vs ∧ tYes σ2 H2 fun b H3 =>
        if b = true then te σ2 H3 fun y H4 => ∃ acc, H4 D = some (.lst acc) ∧ acc.length < sizeLine ∧ Nx (upd H4 D (.lst (acc ++ [y]))) else Nx H3) := by
  refine lc_list (K := K) (a := a) (xs := xs) (tt := tYes) (fun i H => Adv [] H1 H ∧ H D = some (.lst ((List.range i).map ys))) ⟨Adv.new hD, upd_same⟩ (fun i H _ p => SqL.adv p.1 src) (fun i x H hx p => ?_) (fun H p => hd H p.1 p.2)
  have hi : i < xs.length := (List.getElem?_eq_some_iff.mp hx).1
  refine hs i x H _ (fun y H4 => ∃ acc, H4 D = some (.lst acc) ∧ acc.length < sizeLine ∧ Adv [] H1 (upd H4 D (.lst (acc ++ [y]))) ∧ (upd H4 D (.lst (acc ++ [y]))) D = some (.lst ((List.range (i + 1)).map ys))) hx p.1 p.2 (fun H4 e4 a4 => ⟨_, e4, ?_, Adv.mut a4 hD, ?_⟩)
  · rw [List.length_map, List.length_range, sizeLine_eq]
    omega
  · rw [upd_same, range_map_succ]
theorem lc_mapR {n : Nat} (ys : Nat → V) (hD : H1 D = none) (hz : n ≤ 1000000)
    (hs : ∀ (i : Nat) (H : Hp) (acc : List V) (R : V → Hp → Prop), i < n → Adv [] H1 H → H D = some (.lst acc) → (∀ H4, H4 D = some (.lst acc) → Adv [] H1 H4 → R (ys i) H4) → g (.int (0 + (i : Nat))) (wipe σ vs) H fun σ2 H2 => wipe σ2 vs = wipe σ vs ∧ te σ2 H2 R)
    (hd : ∀ H, Adv [] H1 H → H D = some (.lst ((List.range n).map ys)) → Qd H) :
    ∃ W : Nat → Nat → Hp → Prop, (∃ m, W 0 m (upd H1 D (.lst []))) ∧ ∀ i m H, W i m H →
      ((Itr 0 n).stop i H ∧ Qd H) ∨ ((Itr 0 n).go i H ∧ ∃ Nx : Hp → Prop, (∀ H', Nx H' → ∃ m', m' < m ∧ W (i + 1) m' H') ∧ ∀ x H', (Itr 0 n).yld i H x H' → g x (wipe σ vs) H' fun σ2 H2 => wipe σ2 vs = wipe σ vs ∧ tYes σ2 H2 fun b H3 =>
        if b = true then te σ2 H3 fun y H4 => ∃ acc, H4 D = some (.lst acc) ∧ acc.length < sizeLine ∧ Nx (upd H4 D (.lst (acc ++ [y]))) else Nx H3) := by
  refine lc_range (lo := 0) (n := n) (tt := tYes) (fun i H => Adv [] H1 H ∧ H D = some (.lst ((List.range i).map ys))) ⟨Adv.new hD, upd_same⟩ (fun i H hi p => ?_) (fun H p => hd H p.1 p.2)
  refine hs i H _ (fun y H4 => ∃ acc, H4 D = some (.lst acc) ∧ acc.length < sizeLine ∧ Adv [] H1 (upd H4 D (.lst (acc ++ [y]))) ∧ (upd H4 D (.lst (acc ++ [y]))) D = some (.lst ((List.range (i + 1)).map ys))) hi p.1 p.2 (fun H4 e4 a4 => ⟨_, e4, ?_, Adv.mut a4 hD, ?_⟩)
  · rw [List.length_map, List.length_range, sizeLine_eq]
    omega
  · rw [upd_same, range_map_succ]
theorem lc_dataR {M : List Addr} {n : Nat} (ds : List PyData) (hn : n = ds.length) (hD : H1 D = none) (hz : n ≤ 1000000)
    (hs : ∀ (i : Nat) (d : PyData) (H : Hp) (acc : List V) (R : V → Hp → Prop), ds[i]? = some d → Adv [] H1 H → H D = some (.lst acc) → (∀ y H4, H4 D = some (.lst acc) → Adv [D] H H4 → Is (D :: M) H4 d y → R y H4) → g (.int (0 + (i : Nat))) (wipe σ vs) H fun σ2 H2 => wipe σ2 vs = wipe σ vs ∧ te σ2 H2 R)
    (hd : ∀ H acc, Adv [] H1 H → H D = some (.lst acc) → IsDs (D :: M) H ds acc → Qd H) :
    ∃ W : Nat → Nat → Hp → Prop, (∃ m, W 0 m (upd H1 D (.lst []))) ∧ ∀ i m H, W i m H →
      ((Itr 0 n).stop i H ∧ Qd H) ∨ ((Itr 0 n).go i H ∧ ∃ Nx : Hp → Prop, (∀ H', Nx H' → ∃ m', m' < m ∧ W (i + 1) m' H') ∧ ∀ x H', (Itr 0 n).yld i H x H' → g x (wipe σ vs) H' fun σ2 H2 => wipe σ2 vs = wipe σ vs ∧ tYes σ2 H2 fun b H3 =>
        if b = true then te σ2 H3 fun y H4 => ∃ acc, H4 D = some (.lst acc) ∧ acc.length < sizeLine ∧ Nx (upd H4 D (.lst (acc ++ [y]))) else Nx H3) := by
  refine lc_range (lo := 0) (n := n) (tt := tYes) (fun i H => Adv [] H1 H ∧ ∃ acc, H D = some (.lst acc) ∧ IsDs (D :: M) H (ds.take i) acc) ⟨Adv.new hD, [], upd_same, .nil⟩ (fun i H hx p => ?_) (fun H p => ?_)
  · have hi : i < ds.length := by
      rw [← hn]
      exact hx
    obtain ⟨a1, acc, hacc, hds⟩ := p
    have hlen := hds.len
    rw [List.length_take, Nat.min_eq_left (Nat.le_of_lt hi)] at hlen
    refine hs i (ds[i]) H acc (fun y H4 => ∃ acc, H4 D = some (.lst acc) ∧ acc.length < sizeLine ∧ Adv [] H1 (upd H4 D (.lst (acc ++ [y]))) ∧ ∃ acc', (upd H4 D (.lst (acc ++ [y]))) D = some (.lst acc') ∧ IsDs (D :: M) (upd H4 D (.lst (acc ++ [y]))) (ds.take (i + 1)) acc')
      (List.getElem?_eq_getElem hi) a1 hacc (fun y H4 e4 a4 hy => ⟨acc, e4, by rw [sizeLine_eq]; omega, ?_, acc ++ [y], upd_same, ?_⟩)
    · exact Adv.mut (((a1.more (N := [D]) (by simp)).trans a4).drop hD) hD
    · have e1 : ds.take (i + 1) = ds.take i ++ [ds[i]] := by rw [List.take_succ, List.getElem?_eq_getElem hi]; rfl
      rw [e1]
      have m1 : ∀ b ∈ [D], b ∈ D :: M := fun b hb => by simp at hb; simp [hb]
      exact ((hds.adv (a4.more m1)).adv (Adv.set (by simp))).app (IsDs.one (hy.adv (Adv.set (by simp))))
  · obtain ⟨a1, acc, hacc, hds⟩ := p
    rw [hn, List.take_length] at hds
    exact hd H acc a1 hacc hds
theorem lc_dataL {M : List Addr} (ds : List PyData) (hn : xs.length = ds.length) (hD : H1 D = none) (src : SqL K H1 a xs) (hz : xs.length ≤ 1000000)
    (hs : ∀ (i : Nat) (x : V) (d : PyData) (H : Hp) (acc : List V) (R : V → Hp → Prop), xs[i]? = some x → ds[i]? = some d → Adv [] H1 H → H D = some (.lst acc) → (∀ y H4, H4 D = some (.lst acc) → Adv [D] H H4 → Is (D :: M) H4 d y → R y H4) → g x (wipe σ vs) H fun σ2 H2 => wipe σ2 vs = wipe σ vs ∧ te σ2 H2 R)
    (hd : ∀ H acc, Adv [] H1 H → H D = some (.lst acc) → IsDs (D :: M) H ds acc → Qd H) :
    ∃ W : Nat → Nat → Hp → Prop, (∃ m, W 0 m (upd H1 D (.lst []))) ∧ ∀ i m H, W i m H →
      ((Itl K a).stop i H ∧ Qd H) ∨ ((Itl K a).go i H ∧ ∃ Nx : Hp → Prop, (∀ H', Nx H' → ∃ m', m' < m ∧ W (i + 1) m' H') ∧ ∀ x H', (Itl K a).yld i H x H' → g x (wipe σ vs) H' fun σ2 H2 => wipe σ2 vs = wipe σ vs ∧ tYes σ2 H2 fun b H3 =>
        if b = true then te σ2 H3 fun y H4 => ∃ acc, H4 D = some (.lst acc) ∧ acc.length < sizeLine ∧ Nx (upd H4 D (.lst (acc ++ [y]))) else Nx H3) := by
  refine lc_list (K := K) (a := a) (xs := xs) (tt := tYes) (fun i H => Adv [] H1 H ∧ ∃ acc, H D = some (.lst acc) ∧ IsDs (D :: M) H (ds.take i) acc) ⟨Adv.new hD, [], upd_same, .nil⟩ (fun i H _ p => SqL.adv p.1 src) (fun i x H hx p => ?_) (fun H p => ?_)
  · have hi : i < ds.length := by
      rw [← hn]
      exact (List.getElem?_eq_some_iff.mp hx).1
    obtain ⟨a1, acc, hacc, hds⟩ := p
    have hlen := hds.len
    rw [List.length_take, Nat.min_eq_left (Nat.le_of_lt hi)] at hlen
    refine hs i x (ds[i]) H acc (fun y H4 => ∃ acc, H4 D = some (.lst acc) ∧ acc.length < sizeLine ∧ Adv [] H1 (upd H4 D (.lst (acc ++ [y]))) ∧ ∃ acc', (upd H4 D (.lst (acc ++ [y]))) D = some (.lst acc') ∧ IsDs (D :: M) (upd H4 D (.lst (acc ++ [y]))) (ds.take (i + 1)) acc')
      hx (List.getElem?_eq_getElem hi) a1 hacc (fun y H4 e4 a4 hy => ⟨acc, e4, by rw [sizeLine_eq]; omega, ?_, acc ++ [y], upd_same, ?_⟩)
    · exact Adv.mut (((a1.more (N := [D]) (by simp)).trans a4).drop hD) hD
    · have e1 : ds.take (i + 1) = ds.take i ++ [ds[i]] := by rw [List.take_succ, List.getElem?_eq_getElem hi]; rfl
      rw [e1]
      have m1 : ∀ b ∈ [D], b ∈ D :: M := fun b hb => by simp at hb; simp [hb]
      exact ((hds.adv (a4.more m1)).adv (Adv.set (by simp))).app (IsDs.one (hy.adv (Adv.set (by simp))))
  · obtain ⟨a1, acc, hacc, hds⟩ := p
    rw [hn, List.take_length] at hds
    exact hd H acc a1 hacc hds
theorem lc_dataT {M : List Addr} (ds : List PyData) (hn : xs.length = ds.length) (hD : H1 D = none) (src : SqT K H1 a xs) (hz : xs.length ≤ 1000000)
    (hs : ∀ (i : Nat) (x : V) (d : PyData) (H : Hp) (acc : List V) (R : V → Hp → Prop), xs[i]? = some x → ds[i]? = some d → Adv [] H1 H → H D = some (.lst acc) → (∀ y H4, H4 D = some (.lst acc) → Adv [D] H H4 → Is (D :: M) H4 d y → R y H4) → g x (wipe σ vs) H fun σ2 H2 => wipe σ2 vs = wipe σ vs ∧ te σ2 H2 R)
    (hd : ∀ H acc, Adv [] H1 H → H D = some (.lst acc) → IsDs (D :: M) H ds acc → Qd H) :
    ∃ W : Nat → Nat → Hp → Prop, (∃ m, W 0 m (upd H1 D (.lst []))) ∧ ∀ i m H, W i m H →
      ((Itt K a).stop i H ∧ Qd H) ∨ ((Itt K a).go i H ∧ ∃ Nx : Hp → Prop, (∀ H', Nx H' → ∃ m', m' < m ∧ W (i + 1) m' H') ∧ ∀ x H', (Itt K a).yld i H x H' → g x (wipe σ vs) H' fun σ2 H2 => wipe σ2 vs = wipe σ vs ∧ tYes σ2 H2 fun b H3 =>
        if b = true then te σ2 H3 fun y H4 => ∃ acc, H4 D = some (.lst acc) ∧ acc.length < sizeLine ∧ Nx (upd H4 D (.lst (acc ++ [y]))) else Nx H3) := by
  refine lc_tup (K := K) (a := a) (xs := xs) (tt := tYes) (fun i H => Adv [] H1 H ∧ ∃ acc, H D = some (.lst acc) ∧ IsDs (D :: M) H (ds.take i) acc) ⟨Adv.new hD, [], upd_same, .nil⟩ (fun i H _ p => SqT.adv p.1 src) (fun i x H hx p => ?_) (fun H p => ?_)
  · have hi : i < ds.length := by
      rw [← hn]
      exact (List.getElem?_eq_some_iff.mp hx).1
    obtain ⟨a1, acc, hacc, hds⟩ := p
    have hlen := hds.len
    rw [List.length_take, Nat.min_eq_left (Nat.le_of_lt hi)] at hlen
    refine hs i x (ds[i]) H acc (fun y H4 => ∃ acc, H4 D = some (.lst acc) ∧ acc.length < sizeLine ∧ Adv [] H1 (upd H4 D (.lst (acc ++ [y]))) ∧ ∃ acc', (upd H4 D (.lst (acc ++ [y]))) D = some (.lst acc') ∧ IsDs (D :: M) (upd H4 D (.lst (acc ++ [y]))) (ds.take (i + 1)) acc')
      hx (List.getElem?_eq_getElem hi) a1 hacc (fun y H4 e4 a4 hy => ⟨acc, e4, by rw [sizeLine_eq]; omega, ?_, acc ++ [y], upd_same, ?_⟩)
    · exact Adv.mut (((a1.more (N := [D]) (by simp)).trans a4).drop hD) hD
    · have e1 : ds.take (i + 1) = ds.take i ++ [ds[i]] := by rw [List.take_succ, List.getElem?_eq_getElem hi]; rfl
      rw [e1]
      have m1 : ∀ b ∈ [D], b ∈ D :: M := fun b hb => by simp at hb; simp [hb]
      exact ((hds.adv (a4.more m1)).adv (Adv.set (by simp))).app (IsDs.one (hy.adv (Adv.set (by simp))))
  · obtain ⟨a1, acc, hacc, hds⟩ := p
    rw [hn, List.take_length] at hds
    exact hd H acc a1 hacc hds
theorem range_filt_succ (ys : Nat → V) (c : Nat → Bool) (i : Nat) : ((List.range (i + 1)).filter c).map ys = ((List.range i).filter c).map ys ++ (if c i = true then [ys i] else []) := by
  rw [List.range_succ, List.filter_append, List.map_append]
  congr 1
  cases h : c i <;> simp [h]
/-- [e for x in t if c], t a tuple -/
theorem lc_filtT {tt : TT} (ys : Nat → V) (c : Nat → Bool) (hD : H1 D = none) (src : SqT K H1 a xs) (hz : xs.length ≤ 1000000)
    (hs : ∀ (i : Nat) (x : V) (H : Hp) (acc : List V) (R : V → Hp → Prop) (R0 : Hp → Prop), xs[i]? = some x → Adv [] H1 H → H D = some (.lst acc) → (c i = true → ∀ H4, H4 D = some (.lst acc) → Adv [] H1 H4 → R (ys i) H4) →
      (c i = false → ∀ H4, H4 D = some (.lst acc) → Adv [] H1 H4 → R0 H4) → g x (wipe σ vs) H fun σ2 H2 => wipe σ2 vs = wipe σ vs ∧ tt σ2 H2 fun b H3 => if b = true then te σ2 H3 R else R0 H3)
    (hd : ∀ H, Adv [] H1 H → H D = some (.lst (((List.range xs.length).filter c).map ys)) → Qd H) :
    ∃ W : Nat → Nat → Hp → Prop, (∃ m, W 0 m (upd H1 D (.lst []))) ∧ ∀ i m H, W i m H →
      ((Itt K a).stop i H ∧ Qd H) ∨ ((Itt K a).go i H ∧ ∃ Nx : Hp → Prop, (∀ H', Nx H' → ∃ m', m' < m ∧ W (i + 1) m' H') ∧ ∀ x H', (Itt K a).yld i H x H' → g x (wipe σ vs) H' fun σ2 H2 => wipe σ2 vs = wipe σ vs ∧ tt σ2 H2 fun b H3 =>
        if b = true then te σ2 H3 fun y H4 => ∃ acc, H4 D = some (.lst acc) ∧ acc.length < sizeLine ∧ Nx (upd H4 D (.lst (acc ++ [y]))) else Nx H3) := by
  refine lc_tup (K := K) (a := a) (xs := xs) (tt := tt) (fun i H => Adv [] H1 H ∧ H D = some (.lst (((List.range i).filter c).map ys))) ⟨Adv.new hD, upd_same⟩ (fun i H _ p => SqT.adv p.1 src) (fun i x H hx p => ?_) (fun H p => hd H p.1 p.2)
  have hi : i < xs.length := (List.getElem?_eq_some_iff.mp hx).1
  refine hs i x H _ (fun y H4 => ∃ acc, H4 D = some (.lst acc) ∧ acc.length < sizeLine ∧ Adv [] H1 (upd H4 D (.lst (acc ++ [y]))) ∧ (upd H4 D (.lst (acc ++ [y]))) D = some (.lst (((List.range (i + 1)).filter c).map ys)))
    (fun H3 => Adv [] H1 H3 ∧ H3 D = some (.lst (((List.range (i + 1)).filter c).map ys))) hx p.1 p.2 (fun hc H4 e4 a4 => ⟨_, e4, ?_, Adv.mut a4 hD, ?_⟩) (fun hc H4 e4 a4 => ⟨a4, ?_⟩)
  · have h1 := List.length_filter_le c (List.range i)
    rw [List.length_range] at h1
    rw [List.length_map, sizeLine_eq]
    omega
  · rw [upd_same, range_filt_succ, if_pos hc]
  · rw [e4, range_filt_succ, if_neg (by rw [hc]; decide), List.append_nil]
end
theorem range_map_list {ds : List PyData} (f : PyData → Bool) : ((List.range ds.length).map fun i => V.bl (f (ds.getD i .none))) = (ds.map f).map V.bl := by
  apply List.ext_getElem
  · simp
  · intro i h1 h2
    have h : i < ds.length := by simpa using h1
    simp [h]
/-! ### dicts whose keys are tuples -/
theorem val_mem (kvs : List (List Key × V)) (k : List Key) : (valV kvs k).isSome = memK k (kvs.map (·.1)) := by
  unfold valV memK
  rw [Option.isSome_map, List.any_map]
  induction kvs with
  | nil => rfl
  | cons p r ih =>
    rw [List.find?_cons, List.any_cons]
    show (match decide (p.1 = k) with | true => some p | false => r.find? fun kv => decide (kv.1 = k)).isSome = (decide (p.1 = k) || r.any _)
    cases decide (p.1 = k) with
    | true => rfl
    | false => rw [Bool.false_or]; exact ih
theorem put_new (kvs : List (List Key × V)) (k : List Key) (v : V) (h : memK k (kvs.map (·.1)) = false) : putK kvs k v = kvs ++ [(k, v)] := by
  unfold putK
  have e : (kvs.any fun kv => decide (kv.1 = k)) = false := by
    unfold memK at h
    rw [List.any_map] at h
    exact h
  rw [if_neg (by rw [e]; decide)]
/-! ### for i, x in enumerate(list), the list left as it is -/
theorem for_enum {K : PySem.W.Frag} {a : Addr} {xs : List V} {g : TG} {tb : TS} {D : Ends} {σ : L2.St} {H : Hp} (Pv : Nat → L2.St → Hp → Prop) (h0 : Pv 0 σ H) (hl : ∀ i σ H, i ≤ xs.length → Pv i σ H → H a = some (.lst xs))
    (hs : ∀ (i : Nat) (x : V) (T : Addr) (σ : L2.St) (H : Hp), xs[i]? = some x → Pv i σ H → H T = none → g (.ref T) σ (upd H T (.tup [.int (i : Nat), x])) fun σ2 H2 => tb { D with nx := Pv (i + 1), ct := Pv (i + 1), bk := D.nx } σ2 H2) (hd : ∀ σ H, Pv xs.length σ H → D.nx σ H) :
    ∃ W : Nat → Nat → L2.St → Hp → Prop, (∃ m, W 0 m σ H) ∧ ∀ i m σ H, W i m σ H →
      ((Ite K a).stop i H ∧ D.nx σ H) ∨ ((Ite K a).go i H ∧ ∃ N : L2.St → Hp → Prop, (∀ σ' H', N σ' H' → ∃ m', m' < m ∧ W (i + 1) m' σ' H') ∧ ∀ x H', (Ite K a).yld i H x H' → g x σ H' fun σ2 H2 => tb { D with nx := N, ct := N, bk := D.nx } σ2 H2) := by
  refine ⟨fun i m σ H => i + m = xs.length ∧ Pv i σ H, ⟨xs.length, by omega, h0⟩, ?_⟩
  rintro i m σ H ⟨em, p⟩
  have q : SqL K H a xs := SqL.of (hl i σ H (by omega) p)
  by_cases hlt : i < xs.length
  · refine .inr ⟨⟨xs, xs[i], q, List.getElem?_eq_getElem hlt⟩, Pv (i + 1), fun σ' H' p' => ⟨m - 1, by omega, by omega, p'⟩, fun x H' y => ?_⟩
    obtain ⟨T, y0, rfl, nT, rfl, f⟩ := y
    exact hs i y0 T σ H (f xs q) p nT
  · have e : i = xs.length := by omega
    subst e
    exact .inl ⟨⟨xs, q, Nat.le_refl _⟩, hd σ H p⟩
theorem not_mem_new {M : List Addr} {H : Hp} {p : Addr} (h : ∀ b ∈ M, H b ≠ none) (n : H p = none) : p ∉ M := fun z => h p z n
theorem yes_if {σ : L2.St} {H : Hp} {f : Bool → Hp → Prop} (h : f true H) : tYes σ H f := h
/-! ### ways that are never gone -/
def eNo : TE := fun _ _ _ => False
def cNo : TT := fun _ _ _ => False
theorem pe_never {X : Cx} {e : Expr} : PE X e eNo := ⟨fun _ _ _ _ _ _ h => h.elim⟩
theorem pt_never {X : Cx} {e : Expr} : PT X e cNo := ⟨fun _ _ _ _ _ _ h => h.elim⟩
/-- a comprehension over an empty dict that is locked -/
theorem lc_keys0 {d D : Addr} {o : Obj} {g : TG} {tt : TT} {te : TE} {vs : List Nat} {σ : L2.St} {H1 : Hp} {Qd : Hp → Prop} (hd0 : H1 d = some (.frz o (.dK []))) (hD : H1 D = none) (hd : Qd (upd H1 D (.lst []))) :
    ∃ W : Nat → Nat → Hp → Prop, (∃ m, W 0 m (upd H1 D (.lst []))) ∧ ∀ i m H, W i m H →
      ((Itk d o []).stop i H ∧ Qd H) ∨ ((Itk d o []).go i H ∧ ∃ Nx : Hp → Prop, (∀ H', Nx H' → ∃ m', m' < m ∧ W (i + 1) m' H') ∧ ∀ x H', (Itk d o []).yld i H x H' → g x (wipe σ vs) H' fun σ2 H2 => wipe σ2 vs = wipe σ vs ∧ tt σ2 H2 fun b H3 =>
        if b = true then te σ2 H3 fun y H4 => ∃ acc, H4 D = some (.lst acc) ∧ acc.length < sizeLine ∧ Nx (upd H4 D (.lst (acc ++ [y]))) else Nx H3) := by
  refine ⟨fun i m H => H = upd H1 D (.lst []), ⟨0, rfl⟩, ?_⟩
  rintro i m H rfl
  exact .inl ⟨⟨by rw [upd_ne (ne_of_none hd0 hD)]; exact hd0, Nat.zero_le _⟩, hd⟩
/-- a loop over an empty dict that is locked -/
theorem for_keys0 {d : Addr} {o : Obj} {g : TG} {tb : TS} {D : Ends} {σ : L2.St} {H1 : Hp} (hd0 : H1 d = some (.frz o (.dK []))) (hd : D.nx σ H1) :
    ∃ W : Nat → Nat → L2.St → Hp → Prop, (∃ m, W 0 m σ H1) ∧ ∀ i m σ H, W i m σ H →
      ((Itk d o []).stop i H ∧ D.nx σ H) ∨ ((Itk d o []).go i H ∧ ∃ N : L2.St → Hp → Prop, (∀ σ' H', N σ' H' → ∃ m', m' < m ∧ W (i + 1) m' σ' H') ∧ ∀ x H', (Itk d o []).yld i H x H' → g x σ H' fun σ2 H2 => tb { D with nx := N, ct := N, bk := D.nx } σ2 H2) := by
  refine ⟨fun i m σ' H => σ' = σ ∧ H = H1, ⟨0, rfl, rfl⟩, ?_⟩
  rintro i m σ' H ⟨rfl, rfl⟩
  exact .inl ⟨⟨hd0, Nat.zero_le _⟩, hd⟩
theorem IsDs.last {M : List Addr} {H : Hp} : ∀ {ds : List PyData} {d : PyData} {vs : List V}, IsDs M H (ds ++ [d]) vs → ∃ ws v, vs = ws ++ [v] ∧ IsDs M H ds ws ∧ Is M H d v
  | [], d, vs, x => by
    have x' : IsDs M H [d] vs := x
    unfold IsDs at x'
    obtain ⟨v, r, rfl, h1, h2⟩ := x'
    unfold IsDs at h2
    subst h2
    exact ⟨[], v, rfl, .nil, h1⟩
  | c :: ds, d, vs, x => by
    have x' : IsDs M H (c :: (ds ++ [d])) vs := x
    unfold IsDs at x'
    obtain ⟨v, r, rfl, h1, h2⟩ := x'
    obtain ⟨ws, u, rfl, h3, h4⟩ := h2.last
    exact ⟨v :: ws, u, rfl, .cons h1 h3, h4⟩
theorem Is.pair {M : List Addr} {H : Hp} {d e : PyData} {v : V} (x : Is M H (.tuple [d, e]) v) : ∃ t v1 v2, v = .ref t ∧ Tp M H t [v1, v2] ∧ Is M H d v1 ∧ Is M H e v2 := by
  obtain ⟨t, vs, rfl, ht, hs⟩ := x.tupE
  unfold IsDs at hs
  obtain ⟨v1, r, rfl, h1, h2⟩ := hs
  unfold IsDs at h2
  obtain ⟨v2, r2, rfl, h3, h4⟩ := h2
  unfold IsDs at h4
  subst h4
  exact ⟨t, v1, v2, rfl, ht, h1, h3⟩
theorem IsDs.of_get {M : List Addr} {H : Hp} : ∀ {ds : List PyData} {vs : List V}, vs.length = ds.length → (∀ (i : Nat) d v, ds[i]? = some d → vs[i]? = some v → Is M H d v) → IsDs M H ds vs
  | [], vs, hl, h => by
    have : vs = [] := List.length_eq_zero_iff.mp hl
    subst this
    exact .nil
  | d :: ds, [], hl, h => by simp at hl
  | d :: ds, v :: vs, hl, h => .cons (h 0 d v rfl rfl) (IsDs.of_get (by simpa using hl) fun i d' v' h1 h2 => h (i + 1) d' v' (by simpa using h1) (by simpa using h2))
end LL

set_option Elab.async false
set_option linter.all false
set_option maxRecDepth 100000
set_option maxHeartbeats 4000000
/-! LBook: a book of rows (a list, and the dict of its nodes), a stream beside it; written data -/
namespace LL
open PySem PySem.Spec PyProof.Rows L2
variable [KW]
def keyDt : Key → PyData
  | .inl i => .int i
  | .inr x => .str x
theorem ks_data {M : List Addr} {H : Hp} : ∀ ks : List Key, IsDs M H (ks.map keyDt) (ks.map kV)
  | [] => .nil
  | .inl i :: ks => .cons .int (ks_data ks)
  | .inr x :: ks => .cons .str (ks_data ks)
theorem nd_data {M : List Addr} {H : Hp} {a : Addr} {ks : List Key} (h : H a = some (.tup (ks.map kV))) (hn : a ∉ M) : Is M H (.tuple (ks.map keyDt)) (.ref a) := Is.tup h hn (ks_data ks)
theorem sz_key (k : Key) : sz (keyDt k) = 1 := by cases k <;> (unfold keyDt sz; rfl)
theorem dep_key (k : Key) : dep (keyDt k) = 0 := by cases k <;> (unfold keyDt dep; rfl)
theorem sz_tup (ds : List PyData) : sz (.tuple ds) = 1 + szL ds := by rw [sz]
theorem dep_tup (ds : List PyData) : dep (.tuple ds) = 1 + depL ds := by rw [dep]
theorem sz_lst (ds : List PyData) : sz (.list ds) = 1 + szL ds := by rw [sz]
theorem dep_lst (ds : List PyData) : dep (.list ds) = 1 + depL ds := by rw [dep]
theorem depL_cons (d : PyData) (ds : List PyData) : depL (d :: ds) = max (dep d) (depL ds) := by rw [depL]
theorem depL_nil : depL [] = 0 := by rw [depL]
theorem ks_sz : ∀ ks : List Key, szL (ks.map keyDt) = ks.length
  | [] => szL_nil
  | k :: ks => by rw [List.map_cons, szL_cons, ks_sz ks, List.length_cons, sz_key]; omega
theorem ks_dep : ∀ ks : List Key, depL (ks.map keyDt) = 0
  | [] => depL_nil
  | k :: ks => by rw [List.map_cons, depL_cons, ks_dep ks, dep_key]; rfl
/-- a datum as small as a node -/
def Small (d : PyData) : Prop := sz d ≤ 4 ∧ dep d ≤ 1 ∧ ∃ ks : List Key, d = .tuple (ks.map keyDt)
theorem nd_small {ks : List Key} (h : ks.length ≤ 3) : Small (.tuple (ks.map keyDt)) := by
  refine ⟨?_, ?_, ks, rfl⟩
  · rw [sz_tup, ks_sz]; omega
  · rw [dep_tup, ks_dep]; exact Nat.le_refl _
structure BookAt (M : List Addr) (H : Hp) (b0 b1 : Addr) (n : Nat) : Prop where
  rows : ∃ (rs : List V) (ds : List PyData) (kvs : List (List Key × V)), H b0 = some (.lst rs) ∧ rs.length = n ∧ IsDs M H ds rs ∧ (∀ d ∈ ds, Small d) ∧ H b1 = some (.dT kvs) ∧ kvs.length ≤ n ∧ ∀ p ∈ kvs, ∃ i : Nat, p.2 = .int i ∧ i < n
structure Bk (M : List Addr) (H : Hp) (s bk b0 b1 : Addr) (n : Nat) : Prop where
  str : StrAt M H s
  hbk : H bk = some (.lst [.ref b0, .ref b1])
  ms : s ∈ M
  m0 : b0 ∈ M
  m1 : b1 ∈ M
  kM : bk ∉ M
  ns0 : s ≠ b0
  ns1 : s ≠ b1
  n01 : b0 ≠ b1
  al : ∀ b ∈ M, H b ≠ none
  book : BookAt M H b0 b1 n
section
variable {M N : List Addr} {H H' : Hp} {s bk b0 b1 p : Addr} {n : Nat}
theorem alloc_adv (h : ∀ b ∈ M, H b ≠ none) (a : Adv N H H') (hN : ∀ b ∈ N, H' b ≠ none) : ∀ b ∈ M, H' b ≠ none := fun b hb => by
  by_cases e : b ∈ N
  · exact hN b e
  · cases q : H b with
    | none => exact absurd q (h b hb)
    | some o => rw [a b o e q]; simp
theorem Bk.adv (x : Bk M H s bk b0 b1 n) (a : Adv N H H') (h0 : b0 ∉ N) (h1 : b1 ∉ N) (hn : ∀ b ∈ N, b ∈ M) (hs : StrAt M H' s) (hal : ∀ b ∈ N, H' b ≠ none) : Bk M H' s bk b0 b1 n := by
  obtain ⟨x1, x2, x3, x4, x5, x6, x7, x8, x9, xa, rs, ds, kvs, r1, r2, r3, r4, r5, r6, r7⟩ := x
  exact ⟨hs, a _ _ (fun z => x6 (hn _ z)) x2, x3, x4, x5, x6, x7, x8, x9, alloc_adv xa a hal, ⟨rs, ds, kvs, a _ _ h0 r1, r2, r3.adv (a.more hn), r4, a _ _ h1 r5, r6, r7⟩⟩
theorem Bk.same (x : Bk M H s bk b0 b1 n) (a : Adv [] H H') : Bk M H' s bk b0 b1 n := x.adv a (by simp) (by simp) (by simp) (x.str.same a) (by simp)
theorem Bk.next (x : Bk M H s bk b0 b1 n) (a : Adv [s] H H') (hs : StrAt M H' s) : Bk M H' s bk b0 b1 n := x.adv a (by simpa using x.ns0.symm) (by simpa using x.ns1.symm) (by simpa using x.ms) hs (by simpa using hs.here)
theorem Bk.fresh (x : Bk M H s bk b0 b1 n) (h : H p = none) {o : HO} : Bk (p :: M) (upd H p o) s bk b0 b1 n := by
  have y := x.same (Adv.new (o := o) h)
  obtain ⟨_, _, _, _, _, _, _, _, _, _, rs, ds, kvs, r1, r2, r3, r4, r5, r6, r7⟩ := id x
  obtain ⟨x1, x2, x3, x4, x5, x6, x7, x8, x9, xa, _⟩ := y
  obtain ⟨z1, z2, z3, z4, z5, z6, z7, z8, z9, za, _⟩ := id x
  have a : Adv [] H (upd H p o) := Adv.new h
  exact ⟨(z1.fresh h).same a, x2, by simp [x3], by simp [x4], by simp [x5], fun z => (List.mem_cons.mp z).elim (ne_of_none z2 h) x6, x7, x8, x9,
    fun b hb => by
      rcases List.mem_cons.mp hb with e | hb
      · rw [e, upd_same]; simp
      · exact xa b hb, ⟨rs, ds, kvs, a.same _ _ r1, r2, (r3.fresh h).adv (a.more (by simp)), r4, a.same _ _ r5, r6, r7⟩⟩
theorem Bk.less (x : Bk (p :: M) H s bk b0 b1 n) (h1 : s ∈ M) (h2 : b0 ∈ M) (h3 : b1 ∈ M) : Bk M H s bk b0 b1 n := by
  obtain ⟨x1, x2, x3, x4, x5, x6, x7, x8, x9, xa, rs, ds, kvs, r1, r2, r3, r4, r5, r6, r7⟩ := x
  have m : ∀ b ∈ M, b ∈ p :: M := fun b hb => List.mem_cons_of_mem _ hb
  exact ⟨x1.less m, x2, h1, h2, h3, fun z => x6 (m _ z), x7, x8, x9, fun b hb => xa b (m b hb), ⟨rs, ds, kvs, r1, r2, r3.less m, r4, r5, r6, r7⟩⟩
theorem Bk.cong {m : Nat} (x : Bk M H s bk b0 b1 n) (e : n = m) : Bk M H s bk b0 b1 m := e ▸ x
end
theorem Bk.alloc {M : List Addr} {H : Hp} {s bk b0 b1 p : Addr} {n : Nat} (x : Bk M H s bk b0 b1 n) (h : H p = none) : p ≠ s ∧ p ≠ bk ∧ p ≠ b0 ∧ p ≠ b1 := by
  obtain ⟨x1, x2, x3, x4, x5, x6, x7, x8, x9, xa, rs, ds, kvs, r1, r2, r3, r4, r5, r6, r7⟩ := x
  refine ⟨fun z => x1.here (by rw [← z]; exact h), fun z => ?_, fun z => ?_, fun z => ?_⟩
  · rw [← z, h] at x2; cases x2
  · rw [← z, h] at r1; cases r1
  · rw [← z, h] at r5; cases r5
theorem Bk.put {M : List Addr} {H : Hp} {s bk b0 b1 D : Addr} {n : Nat} {o : HO} (x : Bk (D :: M) H s bk b0 b1 n) (h1 : D ≠ s) (h2 : D ≠ b0) (h3 : D ≠ b1) : Bk (D :: M) (upd H D o) s bk b0 b1 n :=
  x.adv (N := [D]) (Adv.set (by simp)) (by simpa using h2.symm) (by simpa using h3.symm) (by simp) (x.str.adv (N := [D]) (Adv.set (by simp)) (by simpa using h1.symm) (by simp)) (fun b hb => by rw [List.mem_singleton.mp hb, upd_same]; simp)
theorem Adv.one {s b0 b1 : Addr} {H H' : Hp} (a : Adv [s] H H') : Adv [s, b0, b1] H H' := a.more (by simp)
theorem Adv.two {s b0 b1 : Addr} {H H' : Hp} (a : Adv [b0, b1] H H') : Adv [s, b0, b1] H H' := a.more (by simp)
theorem Adv.nil {N : List Addr} {H H' : Hp} (a : Adv [] H H') : Adv N H H' := a.more (by simp)
theorem kV_str (x : Str) : kV (.inr x) = .str x := rfl
theorem kV_int (x : Int) : kV (.inl x) = .int x := rfl
/-! ### written data: what a display gives -/
def DE (te : TE) (σ : L2.St) (d : PyData) : Prop := ∀ (M : List Addr) (H : Hp) (Q : VK), (∀ b ∈ M, H b ≠ none) → (∀ v H', Is M H' d v → Adv [] H H' → Q v H') → te σ H Q
def DA (ta : TA) (σ : L2.St) (ds : List PyData) : Prop := ∀ (M : List Addr) (H : Hp) (Q : List V → Hp → Prop), (∀ b ∈ M, H b ≠ none) → (∀ vs H', IsDs M H' ds vs → Adv [] H H' → Q vs H') → ta σ H Q
theorem Adv.alloc {M : List Addr} {H H' : Hp} (a : Adv [] H H') (h : ∀ b ∈ M, H b ≠ none) : ∀ b ∈ M, H' b ≠ none := fun b hb => by
  cases e : H b with
  | none => exact absurd e (h b hb)
  | some o => rw [a.same _ _ e]; simp
section
variable {σ : L2.St} {te : TE} {ta : TA} {d : PyData} {ds : List PyData}
theorem de_int {i : Int} : DE (tC (.int i)) σ (.int i) := fun M H Q _ k => k _ _ .int (Adv.refl _ _)
theorem de_str {x : Str} : DE (tC (.str x)) σ (.str x) := fun M H Q _ k => k _ _ .str (Adv.refl _ _)
theorem de_bl {b : Bool} : DE (tC (.bl b)) σ (.bool b) := fun M H Q _ k => k _ _ .bl (Adv.refl _ _)
theorem de_non : DE (tC .non) σ .none := fun M H Q _ k => k _ _ .non (Adv.refl _ _)
theorem de_neg {i : Int} : DE (tUn (rU fun i => .int (-i)) (tC (.int i))) σ (.int (-i)) := fun M H Q _ k => ⟨i, rfl, k _ _ .int (Adv.refl _ _)⟩
theorem de_var {j : Nat} {i : Int} (h : σ[j]? = some (some (.int i))) : DE (tVar j) σ (.int i) := fun M H Q _ k => ⟨_, h, k _ _ .int (Adv.refl _ _)⟩
theorem de_varop {j : Nat} {i c : Int} {f : Int → Int → Int} (h : σ[j]? = some (some (.int i))) : DE (tOp (rI0 fun i j => .int (f i j)) (tVar j) (tC (.int c))) σ (.int (f i c)) := fun M H Q _ k => ⟨_, h, i, c, rfl, rfl, k _ _ .int (Adv.refl _ _)⟩
theorem de_pow {i c : Int} (h : CPow i c) : DE (tOp (rI CPow fun i j => .int (i ^ j.toNat)) (tC (.int i)) (tC (.int c))) σ (.int (i ^ c.toNat)) := fun M H Q _ k => ⟨i, c, rfl, rfl, h, k _ _ .int (Adv.refl _ _)⟩
theorem de_tup (h : DA ta σ ds) (hl : ds.length ≤ 1000) : DE (tTup ta) σ (.tuple ds) := fun M H Q hM k => h M H _ hM fun vs H' x a =>
  ⟨by rw [x.len, sizeLine_eq]; omega, fun p np => k _ _ (Is.tup upd_same (not_mem_new (a.alloc hM) np) (x.adv (Adv.nil (Adv.new np)))) (a.newT np)⟩
theorem de_lst (h : DA ta σ ds) (hl : ds.length ≤ 1000) : DE (tLst ta) σ (.list ds) := fun M H Q hM k => h M H _ hM fun vs H' x a =>
  ⟨by rw [x.len, sizeLine_eq]; omega, fun p np => k _ _ (Is.lst upd_same (not_mem_new (a.alloc hM) np) (x.adv (Adv.nil (Adv.new np)))) (a.newT np)⟩
theorem de_dic : DE tDNewK σ (.dict []) := fun M H Q hM k => fun p np => k _ _ (Is.dic upd_same (not_mem_new hM np)) (Adv.new np)
theorem da_nil : DA tNil σ [] := fun M H Q _ k => k _ _ .nil (Adv.refl _ _)
theorem da_cons (h1 : DE te σ d) (h2 : DA ta σ ds) : DA (tCons te ta) σ (d :: ds) := fun M H Q hM k => h1 M H _ hM fun v H1 x1 a1 => h2 M H1 _ (a1.alloc hM) fun vs H2 x2 a2 => k _ _ (.cons (x1.adv (Adv.nil a2)) x2) (a1.trans a2)
end
end LL

set_option Elab.async false
set_option linter.all false
set_option maxRecDepth 100000
set_option maxHeartbeats 4000000
namespace LL
open PySem PySem.Spec PyProof.Rows L2
variable [KW]
theorem IsDs.append_self {M : List Addr} {H : Hp} {ds : List PyData} {vs : List V} (h : IsDs M H ds vs) : ∀ n : Nat, IsDs M H (List.replicate n ds).flatten (List.replicate n vs).flatten
  | 0 => .nil
  | n + 1 => by
    rw [List.replicate_succ, List.replicate_succ, List.flatten_cons, List.flatten_cons]
    exact h.app (h.append_self n)
theorem de_rep {K : PySem.W.Frag} {σ : L2.St} {ta : TA} {ds : List PyData} {k : Int} (h : DA ta σ ds) (hl : ds ≠ [] ∧ ds.length ≤ 100) (hk : 2 ≤ k ∧ k ≤ 1000) : DE (tOp (rRepT K) (tTup ta) (tC (.int k))) σ (.tuple (List.replicate k.toNat ds).flatten) := fun M H Q hM kk => h M H _ hM fun vs H' x a =>
  ⟨by rw [x.len, sizeLine_eq]; omega, fun p np => ⟨p, k, vs, rfl, rfl, SqT.of upd_same, fun z => hl.1 (by have := x.len; rw [z] at this; exact List.length_eq_zero_iff.mp this.symm), hk.1, hk.2, by rw [x.len]; omega, fun q nq => by
    have a2 : Adv [] H (upd H' p (.tup vs)) := a.newT np
    exact kk _ _ (Is.tup upd_same (not_mem_new (a2.alloc hM) nq) ((x.append_self k.toNat).adv (Adv.nil ((Adv.new np).trans (Adv.new nq))))) (a2.newT nq)⟩⟩
theorem sz1_int (i : Int) : sz (.int i) = 1 := by unfold sz; rfl
theorem sz1_str (i : Str) : sz (.str i) = 1 := by unfold sz; rfl
theorem sz1_bool (i : Bool) : sz (.bool i) = 1 := by unfold sz; rfl
theorem sz1_none : sz .none = 1 := by unfold sz; rfl
theorem sz1_dict (l : List (PyData × PyData)) : sz (.dict l) = 1 := by unfold sz; rfl
theorem dep1_int (i : Int) : dep (.int i) = 0 := by unfold dep; rfl
theorem dep1_str (i : Str) : dep (.str i) = 0 := by unfold dep; rfl
theorem dep1_bool (i : Bool) : dep (.bool i) = 0 := by unfold dep; rfl
theorem dep1_none : dep .none = 0 := by unfold dep; rfl
theorem dep1_dict (l : List (PyData × PyData)) : dep (.dict l) = 0 := by unfold dep; rfl
end LL

set_option Elab.async false
set_option linter.all false
set_option maxRecDepth 100000
set_option maxHeartbeats 2000000
/-! LExc: raising with the context kept, clauses with a name, what is asked of a held error -/
namespace LL
open PySem PySem.Spec PyProof.Rows L2
/-! ### defs -/
section
variable {P : Program} {w : World} {K : PySem.W.Frag} {mg : Str → Option Value} {base : Heap}
theorem okXN {x qual : Str} {st : Stmt} {f : Addr} {fd : FuncData} {N ps : List Str} {k : Nat} {sp : Sp} (F : Fun K x qual st f fd) (S : FnScope N ps (defScope st))
    (len : ∀ vs H Q E, sp vs H Q E → vs.length = ps.length)
    (hb : ∀ (cdv : Value) (A : Around) (outer : List Env) (s : Shared) (H : Hp) (vs : List V) (Q : VK) (E : XK), Room k (A.deeper (envOfC qual (defScope st) s.heap.objs.size f cdv)) → sp vs H Q E →
      ∃ t, PSs (cxOf (L2N.CX P w) P w K mg base N qual (defScope st) f cdv A outer s H E) (defBody st) t ∧ t { nx := fun _ H' => Q .non H', rt := Q } (L2.start N vs) H) :
    FnOk P w K mg base (L2N.CX P w) (k + 1) f fd ps sp := by
  obtain ⟨o1, o2, kV, doc, pm, an, cdv, ct, osl, e, lk, hcd⟩ := F.ex
  subst e
  exact fn_of lk hcd S len fun A outer s H vs Q E hr hs => hb cdv A outer s H vs Q E hr hs
theorem okH {x qual : Str} {st : Stmt} {f : Addr} {fd : FuncData} {N ps : List Str} {k : Nat} {sp : Sp} (F : Fun K x qual st f fd) (S : FnScope N ps (defScope st))
    (len : ∀ vs H Q E, sp vs H Q E → vs.length = ps.length)
    (hb : ∀ (cdv : Value) (A : Around) (outer : List Env) (s : Shared) (H : Hp) (vs : List V) (Q : VK) (E : XK) (p : Addr × Obj), L2H.Hot1 A p → L2H.RoomH k (A.deeper (envOfC qual (defScope st) s.heap.objs.size f cdv)) → sp vs H Q E →
      ∃ t, PSs (L2H.cxH CX0 P w K mg base N qual (defScope st) f cdv A outer s H E p) (defBody st) t ∧ t { nx := fun _ H' => Q .non H', rt := Q } (L2.start N vs) H) :
    L2H.FnH P w K mg base CX0 (k + 1) f fd ps sp := by
  obtain ⟨o1, o2, kV, doc, pm, an, cdv, ct, osl, e, lk, hcd⟩ := F.ex
  subst e
  exact L2H.fn_ofH lk hcd S len fun A outer s H vs Q E p h1 h2 h3 => hb cdv A outer s H vs Q E p h1 h2 h3
end
/-! ### making an error -/
section
variable {X : Cx} {x : Str} {e : Expr} {es : List Expr} {ta : TA} {p pos : Pos}
theorem pmk_noargN {C : Addr} {bmB : List Value} {B newId initId : String} (F : ExcBaseFacts B newId initId bmB) (q : PySem.W.excIn X.K C bmB newId = true) (gC : X.mg x = some (.ref C)) (kC : PySem.W.keepIn X.K (.ref C) = true) (r : Raises X (.ref C)) (hg : Gl X x)
    (hdb : (x == ("__debug__" : Str)) = false := by decide) : L2N.PMk X (.Call (.Name x p) [] [] pos) (fun _ H Q => Q (.ref C) none H) := by
  intro pins s σ H Q I h
  refine wpAny_Call_Name_kw (ld_glob I hg gC ?_ hdb)
  refine PySem.W.callWith_K0 I.kIn kC ?_
  obtain ⟨bm, N, nm, qn, bs, hdct, sn, sub, ab, col, dd, k0, k1, k2, k3, k5, mN, hC, hN, hni, T⟩ := exc_obj I.kIn q
  exact wpAny_call_exc_subT F T hC hN hni (fun h' e hm => L2N.mk_of I hm r h (I.hok.gone hm.new)) (Nat.zero_le _)
theorem pmk_initN {CX : CXT} {C fI : Addr} {k : Nat} {fd : FuncData} {ps : List Str} {sp : Sp} {ds : List Value} {dvs : List V} (T : OexC X.K C) (iC : PySem.W.findIn X.K (.ref C) "__init__" = some (some (.ref fI)))
    (tI : PySem.W.typeIn X.K (.ref fI) = some (.type "function")) (F1 : FnOk X.prog X.w X.K X.mg X.base CX k fI fd ps sp) (hr : Room (k + 1) X.A) (hb : Binds X.K fd ps ds) (hd : Vals dvs ds) (hx : Passes CX X (fun _ _ _ => False)) (hg : Gl X x) (hm : X.mg x = some (.ref C))
    (ha : PA X (e :: es) ta) (hdb : (x == ("__debug__" : Str)) = false := by decide) (he : starEach (e :: es) X.env = (false, eval e X.env) :: starEach es X.env := by rfl) (hpl : (backTo pos (starEach es X.env)).any (·.1) = false := by rfl) :
    L2N.PMk X (.Call (.Name x p) (e :: es) [] pos) (tMkO C sp dvs ta) := by
  intro pins s σ H Q I h
  obtain ⟨nm, q, N, bs, bm, sn, sub, ab, col, dd, k0, k1, k2, k3, k5, hC, hbm⟩ := T.cls
  refine wpAny_Call_Name_kw (ld_glob I hg hm ?_ hdb)
  refine PySem.W.callWith_K (h₀ := X.base) I.ok.mod.kin T.kC (thn (ha.run pos pins s σ H _ I h) fun us s1 ⟨vs, H1, I1, r1, hz, q1⟩ => ⟨I1.kIn, ?_⟩) he hpl
  show wpAny _ _ (call (.ref C) us) _ _ _
  obtain ⟨hp, g, dr, tk, os⟩ := s1
  have ln : hp.objs.size ≤ hp.objs.size + 1 := Nat.le_succ _
  have fr : H1 (hp.objs.size + 1) = none := I1.hok.fresh ln
  have spq := q1 (hp.objs.size + 1) fr
  have old : ∀ b o, hp.get? b = some o → ((hp.push (PySem.W.kdv_tup us)).push (PySem.HandSPX.excO C hp.objs.size)).get? b = some o := fun b o e => Heap.get?_push_of_some _ (Heap.get?_push_of_some _ e)
  have its : ((hp.push (PySem.W.kdv_tup us)).push (PySem.HandSPX.excO C hp.objs.size)).get? (hp.objs.size + 1) = some (PySem.HandSPX.excO C hp.objs.size) := by heap_get
  have I2 : Inv X pins σ (upd H1 (hp.objs.size + 1) (exo (hp.objs.size + 1) C none)) ⟨(hp.push (PySem.W.kdv_tup us)).push (PySem.HandSPX.excO C hp.objs.size), g, dr, tk, os⟩ :=
    I1.laid (t' := tk) (a := hp.objs.size + 1) (o := exo (hp.objs.size + 1) C none) (h' := (hp.push (PySem.W.kdv_tup us)).push (PySem.HandSPX.excO C hp.objs.size)) old ln (exo_ok its)
  have vr : Vals (V.ref (hp.objs.size + 1) :: (vs ++ dvs)) (Value.ref (hp.objs.size + 1) :: (us ++ ds)) := .cons rfl (r1.append hd)
  have hl : (Value.ref (hp.objs.size + 1) :: us ++ ds).length = ps.length := by
    have e := vr.length
    rw [F1.len _ _ _ _ spq] at e
    exact e.symm
  have su : us.length ≤ sizeLine := by
    have := Paired.length r1
    rw [sizeLine_eq]; omega
  refine wpAny_call (PySem.HandSPX.call_own F.excBase_ValueError (fun Y => PySem.HandSPX.refsVE_contains Y bm hbm) (I1.kIn _ _ hC) (PySem.W.looks_findIn I1.kIn iC) (fun self => PySem.W.bind_fn I1.kIn self tI) su
    (codeAny_mono (F1.run _ X.stack _ _ ⟨Value.ref (hp.objs.size + 1) :: us, []⟩ (Value.ref (hp.objs.size + 1) :: (us ++ ds)) _ _ (fun _ _ _ => False) (hr.make C us []) (I2.env0.make C us []) (hb _ (Value.ref (hp.objs.size + 1) :: us) I2.kIn hl) vr spq) fun r s' hq => ?_))
  cases r with
  | error er => exact hx pins σ _ _ er s' I2 hq
  | ok fl =>
    cases fl with
    | next => exact False.elim hq
    | brk => exact False.elim hq
    | cont => exact False.elim hq
    | ret u =>
      obtain ⟨v, H2, o2, b2, u2, k2', rv, ev, d, fs, ea, ed, hd1, q2⟩ := hq
      subst ev
      obtain ⟨h2, g2, d2, t2, os'⟩ := s'
      obtain ⟨t0, G, J, kG, ge, hoe, na⟩ := mk_end0 (d2 := d2) (t2 := t2) I1 ln old u2 k2' o2 b2 ea ed hd1
      exact ⟨rv, hp.objs.size + 1, _, _, ⟨G, g2, d2, t2, os'⟩, _, .ref C, some d, rfl, J, kG, ge, hoe, ⟨rfl, rfl, fun vs e => by cases e; rfl⟩, rfl, rfl, na, rfl, b2, raises_own T.exC T.tyC, q2⟩
end
/-! ### list.count, flat items -/
def rCntF (K : PySem.W.Frag) : V → List V → Hp → VK → Prop := fun x xs H Q => ∃ (a : Addr) (ys : List V) (y : V), x = V.ref a ∧ xs = [y] ∧ SqL K H a ys ∧ flatV y = true ∧ ys.all flatV = true ∧ Q (.int ((ys.countP fun z => eqV z y) : Nat)) H
theorem count_eqU {y : V} : ∀ {ys : List V} {its : List Value}, Vals ys its → ys.all flatV = true → its.countP (eqU y) = ys.countP fun z => eqV z y
  | [], _, .nil, _ => rfl
  | z :: ys, u :: its, .cons r rs, h => by
    rw [List.all_cons, Bool.and_eq_true] at h
    rw [List.countP_cons, List.countP_cons, count_eqU rs h.2, eqU_of r h.1]
theorem mt_countF {X : Cx} : MtR X "list.count" (rCntF X.K) := by
  intro pins s σ H x xs v us Q I rx rxs h
  obtain ⟨a, ys, y, rfl, rfl, hs, fy, fys, q⟩ := h
  cases rx
  obtain ⟨u, rfl, ru⟩ := rxs.one
  obtain ⟨its, rv, ⟨⟨cls, dd, data, sl⟩, n, ho, hc, hdn, hd⟩, hlen⟩ := I.list hs
  simp only at hc hd
  subst hc hd
  refine call_meets PySem.F.slot_list_count ⟨_, ho, rfl⟩ PySem.F.entry_list_count (PySem.F.args_list_count_2 _ _)
    (SeqAt.list_countAt a its.toArray n dd sl u (eqU y)) ⟨ho, fun z hz => mem_eqAt ru fy rv fys z (by simpa using hz), ?_⟩
  refine ⟨.int ((ys.countP fun z => eqV z y) : Nat), H, I.tok _, ⟨s.toks, ?_⟩, q⟩
  rw [← count_eqU rv fys]
end LL

set_option Elab.async false
set_option linter.all false
set_option maxRecDepth 100000
set_option maxHeartbeats 2000000
/-! LExd: isinstance of a held error whatever its dict; try with clauses that name the error -/
namespace LL
open PySem PySem.Spec PyProof.Rows L2
section
open PySem.W PySem.Calls
variable {prog : Program} {w : World} {A : Around} {E : Value → Shared → Prop} {s : Shared} {K : Frag} {x D : Addr} {ox : Obj} {od : Option Obj}
theorem held_class {Q : Option Value → Shared → Prop} (C : ExcC K D) (X : K.In s.heap) (I : InstAt s.heap x ox D od) (h : Q (some (.ref D)) { s with toks := s.toks + 1 }) :
    wpAny (model prog w) A (getAttr? (.ref x) "__class__") Q E s := by
  have hf : findObj K D od "__class__" = some (.bind (.builtin "getset_descriptor.__get__") (.builtin "object.__class__")) := by
    obtain ⟨cd, hc, _⟩ := any_some C.hd
    unfold findObj
    rw [hc, Option.bind_some, C.ha, Option.bind_some]
    simp [C.hn, C.ht]
  obtain ⟨hp, g, d, t, os⟩ := s
  have L0 := I.type (M := model prog w)
  have L1 := looks_findIn (M := model prog w) X C.hg
  have L2' := looks_findIn (M := model prog w) X C.hk
  have L3 := looks_find (M := model prog w) X I hf
  have sub : Looks (model prog w) hp (isInstance (.ref x) (.type "BaseException")) true := L0.andThen (looks_subIn X C.hs)
  have y0 : (false && onTheHeap (Value.builtin "BaseException.__getattribute__")) = false := rfl
  have y2 : (Value.builtin "BaseException.__getattribute__" == Value.builtin "object.__getattribute__") = false := by decide +kernel
  have y1 : (onTheHeap (Value.ref D) && Value.builtin "BaseException.__getattribute__" == Value.builtin "object.__getattribute__") = false := by rw [y2]; rfl
  unfold getAttr? getAttrBy? getAttrBy
  refine wpAny_bind (wpAny_mkText (wpAny_bind (wpAny_attempt (wpAny_holding (wpAny_bind (L0.at (wpAny_bind (L1.at ?_))))))))
  show wpAny _ _ (if (onTheHeap (Value.ref D) && Value.builtin "BaseException.__getattribute__" == Value.builtin "object.__getattribute__") = true then _ else _) _ _ _
  rw [y1, if_neg Bool.false_ne_true]
  unfold getAttrByItsOwn hookBefore
  refine wpAny_bind ?_
  rw [if_pos (show onTheHeap (Value.ref D) = true from rfl)]
  refine L2'.at (wpAny_bind (wpAny_attempt (wpAny_holding ?_)))
  unfold callGetattribute
  rw [y0, if_neg Bool.false_ne_true]
  unfold boundAndCalled
  rw [PySem.F.excAttr_ValueError.ga.bind (.ref x)]
  refine wpAny_bind (wpAny_pure ?_)
  show wpAny _ _ (call (.builtin "BaseException.__getattribute__") [.ref x, .str "__class__" t]) _ _ _
  refine wpAny_call (codeAny_call_builtin PySem.F.excAttr_ValueError.ga.plain PySem.F.entry_bexc_ga ?_)
  refine @check_slot (model prog w) _ _ ⟨hp, g, d, t + 1, os⟩ "BaseException.__getattribute__" "BaseException" "__getattribute__" (.ref x) [.str "__class__" t] [] _ (by decide +kernel) (by decide +kernel) sub (PySem.F.args_bexc_ga (.ref x) (.str "__class__" t)) ?_
  unfold Builtin.«object.__getattribute__»
  refine wpAny_bind (wpAny_of_eq (a := ((Value.ref x : Value), [Value.str "__class__" t])) (by first | rfl | (simp only [slotArgs]; rfl)) ?_)
  refine wpAny_bind (wpAny_pure (wpAny_bind (L0.at (wpAny_bind (L3.at ?_)))))
  show wpAny _ _ (holding [Value.builtin "object.__class__"] (call (.builtin "getset_descriptor.__get__") [.builtin "object.__class__", .ref x, .ref D]) >>= ret) _ _ _
  refine wpAny_bind (wpAny_holding (wpAny_call (class_get (s := ⟨hp, g, d, t + 1, os⟩) (ox := ox) (od := od) X I C.hm ?_)))
  refine wpAny_pure ?_
  show wpAny _ _ (handedOut (.ref D)) _ _ _
  rw [handedOut_of (v := .ref D) rfl]
  first
    | exact wpAny_pure (wpAny_pure h)
    | exact wpAny_pure h
    | exact wpAny_pure (wpAny_bind (wpAny_pure (wpAny_pure h)))
theorem held_kit (C : ExcC K D) : KitX K (.ref x) (.ref D) (fun h => InstAt h x ox D od) := by
  refine ⟨fun _ _ _ I => I.type, fun _ _ X _ => ?_, fun h tp dd its n sl X htp => ?_, fun X I k => held_class C X I k⟩
  · obtain ⟨cdD, hcD, _⟩ := any_some C.hd
    unfold clsIn at hcD
    split at hcD
    · rename_i c' d' cd' sl' ho
      intro A' Q' E' s' k q
      unfold isType loadHead
      exact wpAny_bind (wpAny_loadPart (k _ _ (X _ _ ho)) (wpAny_pure q))
    · cases hcD
  · obtain ⟨cdD, hcD, _⟩ := any_some C.hd
    refine Bool.eq_false_iff.mpr fun q => ?_
    obtain rfl : D = tp := Value.ref.inj (beq_iff_eq.mp q)
    unfold clsIn at hcD
    split at hcD
    · rename_i c' d' cd' sl' ho
      cases (X _ _ ho).symm.trans htp
    · cases hcD
end
/-- isinstance(e, c), e a held error at a, of class D, its dict d -/
def rIsP (K : PySem.W.Frag) (D a : Addr) (d : Option Addr) : List V → Hp → VK → Prop := fun xs H Q => ∃ (c : V) (cv : Value) (b : Bool), xs = [.ref a, c] ∧ (∀ u, RelV c u → u = cv) ∧ (∀ dd, d = some dd → ∃ fs, H dd = some (.xd fs)) ∧ PySem.W.kitOne K (.ref D) cv = some b ∧ Q (.bl b) H
theorem call_isP {X : Cx} {a D : Addr} {oe : Obj} {d : Option Addr} (C : ExcC X.K D) (hz : Zc (.ref D) d oe) (hf : ∃ vs, oe.data = .fields vs) (hp : (a, oe) ∈ X.pn) : CallR X (.builtin "isinstance") (rIsP X.K D a d) := by
  intro pins s σ H xs us Q I r h
  obtain ⟨c, cv, b, rfl, hcv, hd, e, q⟩ := h
  cases r with
  | cons rx rr =>
    cases rr with
    | cons rt rr =>
      cases rr
      cases rx
      have ec := hcv _ rt
      subst ec
      obtain ⟨hget, _⟩ := I.pin (a, oe) (List.mem_append.mpr (.inl hp))
      obtain ⟨vs, hv⟩ := hf
      have J : ∃ od, PySem.W.InstAt s.heap a oe D od := by
        obtain ⟨oc, o1, oda, osl⟩ := oe
        obtain ⟨h1, h2⟩ := hz
        dsimp only at h1 h2 hv
        subst h1 h2 hv
        cases o1 with
        | none => exact ⟨none, hget, rfl, rfl, trivial⟩
        | some dd =>
          obtain ⟨fs, ea⟩ := hd dd rfl
          obtain ⟨mA, hns, _⟩ := I.hok dd _ ea
          obtain ⟨od, ho, _⟩ := lookIn_ns hns
          exact ⟨some od, hget, rfl, rfl, ho⟩
      obtain ⟨od, J⟩ := J
      exact PySem.W.kia_one (held_kit C) I.kIn J e (fun z => nomatch z) fun tk => ⟨.bl b, H, I.kept (t' := tk) fun _ _ z => z, rfl, q⟩
/-! ### try with clauses that name the error -/
def wAsMany (K : PySem.W.Frag) (i : Nat) (Wout : WX) (D : Ends) : List (Value × (Addr → Value → Option Addr → TS)) → WX
  | [] => Wout
  | (c, ts) :: l => fun cls d σ H => ∃ b, PySem.W.exmOne K cls c = some b ∧
      (b = true → ∀ a, H a = none → ts a cls d { nx := fun σ' H' => D.nx (σ'.set i none) H', rt := D.rt, bk := fun σ' H' => D.bk (σ'.set i none) H', ct := fun σ' H' => D.ct (σ'.set i none) H' } (σ.set i (some (.ref a))) H) ∧
      (b = false → wAsMany K i Wout D l cls d σ H)
inductive HdsAs (X : Cx) (n : Str) : List ExceptHandler → List (Value × (Addr → Value → Option Addr → TS)) → Prop
  | nil : HdsAs X n [] []
  | cons {x : Str} {c : Value} {ts : Addr → Value → Option Addr → TS} {b₀ : Stmt} {suite : List Stmt} {np pos' : Pos} {hds : List ExceptHandler} {l : List (Value × (Addr → Value → Option Addr → TS))} (hc : Names X x c)
      (hsu : ∀ (a : Addr) (oe : Obj) (cls : Value) (d : Option Addr) (pn : List (Addr × Obj)), L2N.Zn cls d oe → (∃ vs, oe.data = .fields vs) → PSs (X.suite a ((a, oe) :: pn)) (b₀ :: suite) (ts a cls d)) (r : HdsAs X n hds l) :
      HdsAs X n (.ExceptHandler (some (.Name x np)) (some n) (b₀ :: suite) pos' :: hds) ((c, ts) :: l)
section
open L2N
variable {X : Cx} {n : Str} {i : Nat} {body : List Stmt} {h₀ : ExceptHandler} {hds : List ExceptHandler} {l : List (Value × (Addr → Value → Option Addr → TS))} {pos : Pos} {tb : WX → TS} {Wout : WX}
theorem ps_tryAs (hs : X.stack = X.env :: X.outer) (hf : X.env.frame = some X.env.locals) (hN : X.N.Nodup) (hi : X.N[i]? = some n) (hln : X.env.kindOf n = some .local) (tk : L2N.Takes X Wout)
    (hb : ∀ (W : WX) (pn : List (Addr × Obj)) (xe : Value → Shared → Prop), L2N.Takes (X.tr pn xe) W → PassesOwn (model X.prog X.w) X.A X.env xe → PSs (X.tr pn xe) body (tb W))
    (hh : HdsAs X n (h₀ :: hds) l) : PS X (.Try body (h₀ :: hds) [] [] pos) (fun D σ H => tb (wAsMany X.K i Wout D l) D σ H) := by
  refine ⟨fun pins s σ H D I h => ?_⟩
  have ok := I.ok
  have hfr : X.A.frames = some (X.env :: X.outer) := by rw [ok.frames, hs]
  have hloc : Loc X.env.scope n := .inl hln
  refine wpAny_Try_except (wpAny_mono ((hb (wAsMany X.K i Wout D l) (X.pn ++ pins) (fun e s₁ => wpAny (model X.prog X.w) X.A (noteFrame e X.env) (fun _ s₂ => wpAny (model X.prog X.w) X.A (setFlight e none) (fun _ s₃ =>
    wpAny (model X.prog X.w) X.A (handleBy e X.env (h₀ :: hds)) (SP X pins D) X.xe s₃) X.xe s₂) X.xe s₁) (fun u s' xx => ?_) PassesOwn.looking).run [] s σ H D (I.toTry _) h) (fun f s1 hsp => ?_) (fun e s1 he => he))
  · obtain ⟨a, B, sI, pins', σ', H', cls, d, rfl, J', nb, up, sky, na, os, ag, w⟩ := xx
    have J : Inv X pins σ' H' sI := J'.ofTry ok
    show wpAny (model X.prog X.w) X.A (noteFrame (.ref a) X.env) _ _ _
    refine L2N.Sky.land (B := B) (L := X.env.locals) Zn.steady hfr hf (by rw [← hs]; exact sky) fun h3 fl3 up3 => ?_
    have J3 : Inv X pins σ' H' { s' with heap := h3 } := J.landed nb fl3.1 (up.trans up3) os ag
    obtain ⟨oe3, vs3, he3, hz3, hd3⟩ := fl3.there
    have nfr : a ∉ frs (X.env :: X.outer) := fun hm => by
      obtain ⟨_, o', e', hnf⟩ := fl3.2.2.1.mem hm
      rw [he3] at e'; cases e'
      exact hnf _ hd3
    have nL : a ≠ X.env.locals := fun z => nfr (List.mem_filterMap.mpr ⟨X.env, List.mem_cons_self, by rw [hf, z]⟩)
    have nF : a ∉ X.fs := fun hm => by
      obtain ⟨e, he, q⟩ := List.mem_filterMap.mp hm
      exact nfr (List.mem_filterMap.mpr ⟨e, List.mem_cons_of_mem _ he, q⟩)
    have S3 := J3.suite he3 hd3 na nL nF
    have go : ∀ {hds' : List ExceptHandler} {l' : List (Value × (Addr → Value → Option Addr → TS))}, HdsAs X n hds' l' → wAsMany X.K i Wout D l' cls d σ' H' →
        wpAny (model X.prog X.w) X.A (handleBy (.ref a) X.env hds') (SP X pins D) X.xe { s' with heap := h3 } := by
      intro hds' l' hk
      induction hk with
      | nil =>
        intro w
        refine wpAny_handleBy_nil ?_
        obtain ⟨k1, k2, k3, oe, vs, T, oT, ts', he, hz, hd, h1, hr⟩ := id fl3
        unfold PySem.passOn
        refine wpAny_bind (wpAny_field he hd h1 ?_)
        rw [if_neg (show ¬ ((Value.ref T == Value.none) = true) from by simp)]
        have fin : wpAny (model X.prog X.w) X.A (setFlight (.ref a) X.env.frame) (fun _ s4 => wpAny (model X.prog X.w) X.A (throw (.ref a) : Sem Flow) (SP X pins D) X.xe s4) X.xe { s' with heap := h3 } := by
          rw [hf]
          exact HandSPX.setFlight_upZ fl3 fun h4 hh4 up4 => wpAny_throw (tk _ _ ⟨a, B, sI, pins, σ', H', cls, d, rfl, J, nb, (up.trans up3).trans up4, .inr (.inr (by rw [hs]; exact hh4)), na, os, ag, w⟩)
        first
          | exact wpAny_bind (wpAny_pure (wpAny_bind fin))
          | exact wpAny_bind fin
      | @cons x c ts b₀ suite np pos' hds2 l2 hc hsu r ih =>
        intro w
        obtain ⟨b, hb1, hyes, hno⟩ := w
        refine wpAny_handleBy_cons (codeAny_handlers_test ?_) (by intro q; cases q)
        have LT : PySem.W.Looks (model X.prog X.w) h3 (typeOf (.ref a)) cls := fun A Q E s k q => wpAny_typeOf_ref (k _ _ he3) (by rw [hz3.1]; exact q)
        have LM := PySem.W.exm_one (M := model X.prog X.w) (J3.kIn) LT hb1
        have test : ∀ {Q : Value → Shared → Prop} {E : Value → Shared → Prop}, Q c { s' with heap := h3 } → wpAny (model X.prog X.w) (X.A.mark (some (.ref a))) (eval (.Name x np) X.env) Q E { s' with heap := h3 } := fun {Q E} q => by
          obtain ⟨hg, hdbg, hm | ⟨hm, hv, hnn⟩⟩ := hc
          · exact ld_glob (X := X.suite a ((a, oe3) :: (X.pn ++ pins))) S3 hg hm q hdbg
          · exact ld_blt (X := X.suite a ((a, oe3) :: (X.pn ++ pins))) S3 hg hm hv q hnn hdbg
        refine test (LM.here ?_)
        cases b with
        | false =>
          show wpAny _ X.A (handleBy (.ref a) X.env hds2) _ _ _
          exact ih (hno rfl)
        | true =>
          refine codeAny_handlers_suite_as (HandSPX.lands_againZ fl3 fun h4 fl4 up4 => ?_)
          have J4 : Inv X pins σ' H' { s' with heap := h4 } := J.landed nb fl4.1 ((up.trans up3).trans up4) os ag
          obtain ⟨oe4, vs4, he4, hz4, hd4⟩ := fl4.there
          have S4 := J4.suite he4 hd4 na nL nF
          refine store_ok (X := X.suite a ((a, oe4) :: (X.pn ++ pins))) (v := .ref a) S4 hN hi hloc rfl (fun s5 S5 => ?_) (.inr hln)
          refine wpAny_mono ((hsu a oe4 cls d (X.pn ++ pins) hz4 ⟨_, hd4⟩).run [] s5 _ H' _ S5 (hyes rfl a na)) (fun f s6 hsp => ?_) (fun _ _ z => False.elim z)
          have done : ∀ {σ6 : L2.St} {H6 : Hp} {Q : Shared → Prop}, Inv (X.suite a ((a, oe4) :: (X.pn ++ pins))) [] σ6 H6 s6 → (∀ s7, Inv X pins (σ6.set i none) H6 s7 → Q s7) →
              wpAny (model X.prog X.w) X.A (do bindName X.env n .none; unbindBehindTheSuite X.env n pos') (fun _ s7 => Q s7) X.xe s6 := fun {σ6 H6 Q} S6 hq => gone_ok (S6.unsuite ok) hN hi hln hq
          cases f with
          | ret u =>
            obtain ⟨v6, σ6, H6, S6, r6, q6⟩ := hsp
            exact done S6 fun s7 J7 => ⟨_, _, _, J7, r6, q6⟩
          | next => obtain ⟨σ6, H6, S6, q6⟩ := hsp; exact done S6 fun s7 J7 => ⟨_, _, J7, q6⟩
          | brk => obtain ⟨σ6, H6, S6, q6⟩ := hsp; exact done S6 fun s7 J7 => ⟨_, _, J7, q6⟩
          | cont => obtain ⟨σ6, H6, S6, q6⟩ := hsp; exact done S6 fun s7 J7 => ⟨_, _, J7, q6⟩
    exact go hh w
  · cases f with
    | next => obtain ⟨σ', H', J', q⟩ := hsp; exact wpAny_execs_nil ⟨σ', H', J'.ofTry ok, q⟩
    | brk => obtain ⟨σ', H', J', q⟩ := hsp; exact ⟨σ', H', J'.ofTry ok, q⟩
    | cont => obtain ⟨σ', H', J', q⟩ := hsp; exact ⟨σ', H', J'.ofTry ok, q⟩
    | ret u => obtain ⟨v, σ', H', J', r, q⟩ := hsp; exact ⟨v, σ', H', J'.ofTry ok, r, q⟩
end
end LL

set_option Elab.async false
set_option linter.all false
set_option maxRecDepth 100000
set_option maxHeartbeats 2000000
/-! LNam: a def that is called in an except suite with the held error itself -/
namespace LL
open PySem PySem.Spec PyProof.Rows L2 L2H
/-- what a def promises of a call whose argument may be the held error p -/
structure FnP (P : Program) (w : World) (K : PySem.W.Frag) (mg : Str → Option Value) (base : Heap) (k : Nat) (f : Addr) (fd : FuncData) (ps : List Str) (sp : Addr × Obj → Sp) : Prop where
  len : ∀ p vs H Q E, sp p vs H Q E → vs.length = ps.length
  run : ∀ (A : Around) (outer : List Env) (s : Shared) (H : Hp) (args : Args) (us : List Value) (vs : List V) (Q : VK) (E : XK) (p : Addr × Obj), RoomH k A → PinOk outer H s p → Env0 P w K mg base A outer s H → BindsTo s fd args (ps.zip us) → Vals vs us → sp p vs H Q E →
    codeAny (model P w) A (.call (.ref f) args) (CR CX0 outer P w H s Q E) s
theorem okP {P : Program} {w : World} {K : PySem.W.Frag} {mg : Str → Option Value} {base : Heap} {x qual : Str} {st : Stmt} {f : Addr} {fd : FuncData} {N ps : List Str} {k : Nat} {sp : Addr × Obj → Sp} (F : Fun K x qual st f fd) (S : FnScope N ps (defScope st))
    (len : ∀ p vs H Q E, sp p vs H Q E → vs.length = ps.length)
    (hb : ∀ (cdv : Value) (A : Around) (outer : List Env) (s : Shared) (H : Hp) (vs : List V) (Q : VK) (E : XK) (p : Addr × Obj), RoomH k (A.deeper (envOfC qual (defScope st) s.heap.objs.size f cdv)) → sp p vs H Q E →
      ∃ t, PSs (cxH CX0 P w K mg base N qual (defScope st) f cdv A outer s H E p) (defBody st) t ∧ t { nx := fun _ H' => Q .non H', rt := Q } (L2.start N vs) H) :
    FnP P w K mg base (k + 1) f fd ps sp := by
  obtain ⟨o1, o2, kV, doc, pm, an, cdv, ct, osl, e, lk, hcd⟩ := F.ex
  subst e
  constructor
  case len => exact len
  case run =>
    intro A outer s H args us vs Q E p hr hpin e0 hbd r hsp
    have hl := len _ _ _ _ _ hsp
    have inK : K.In s.heap := e0.mod.kin.keeps fun b o e => (e0.bs b o e).1
    have noLim : s.heap.NoLimit := e0.mod.nolimit.keeps fun b o e => (e0.bs b o e).1
    have kinds : ∀ y ∈ ps.zip us, (defScope st).names.lookup y.1 = some .local ∨ ((defScope st).names.lookup y.1 = some .cell ∧ ((cellsFrom (s.heap.objs.size + 1) (defScope st).names []).lookup y.1).isSome = true) := by
      rintro ⟨n, v⟩ hy
      rcases S.par n (List.of_mem_zip hy).1 with q | q
      · exact .inl q
      · exact .inr ⟨q, PySem.W.cellsFrom_some _ _ _ (.inl q)⟩
    refine codeAny_call_function hr.depth (inK _ _ lk) rfl S.co S.gen rfl (PySem.W.codeRec_of inK hcd) (hbd _ _ _ _ (wpAny_newFunctionEnv_cells S.kind kinds fun env he s1 x => ?_))
    subst he
    refine ⟨noLim.keeps x.toInCall.keep, codeAny_func ?_⟩
    obtain ⟨t, ht, hq⟩ := hb cdv A outer s H vs Q E p (hr.deeper _) hsp
    have I := inv_startH (CX := CX0) (mg := mg) (E := E) S hpin e0 hl r x
    refine wpAny_mono (ht.run [] s1 (L2.start N vs) H _ I hq) (fun fl s' hs => ?_) fun e s' hs => hs
    cases fl with
    | ret u =>
      obtain ⟨v, σ', H', J, rv, q⟩ := hs
      exact ⟨v, H', J.os, J.bare, J.base, J.hok, rv, q⟩
    | next =>
      obtain ⟨σ', H', J, q⟩ := hs
      exact ⟨V.non, H', J.os, J.bare, J.base, J.hok, rfl, q⟩
    | brk => obtain ⟨_, _, _, q⟩ := hs; exact q.elim
    | cont => obtain ⟨_, _, _, q⟩ := hs; exact q.elim
def tCallP (sp : Addr × Obj → Sp) (p : Addr × Obj) (E : XK) (t : TA) : TE := fun σ H Q => t σ H fun vs H1 => sp p vs H1 Q E
theorem pe_callP {X : Cx} {k : Nat} {f : Addr} {fd : FuncData} {ps : List Str} {sp : Addr × Obj → Sp} {E : XK} {x : Str} {q pos : Pos} {e : Expr} {es : List Expr} {t : TA} {p : Addr × Obj} (F : FnP X.prog X.w X.K X.mg X.base k f fd ps sp) (hr : RoomH k X.A) (hp : p ∈ X.pn) (hg : Gl X x)
    (hm : X.mg x = some (.ref f)) (hk : PySem.W.keepIn X.K (.ref f) = true) (hb : Binds X.K fd ps []) (ha : PA X (e :: es) t) (hdb : (x == ("__debug__" : Str)) = false := by decide) (he : starEach (e :: es) X.env = (false, eval e X.env) :: starEach es X.env := by rfl)
    (hpl : (backTo pos (starEach es X.env)).any (·.1) = false := by rfl) : PE X (.Call (.Name x q) (e :: es) [] pos) (tCallP sp p E t) := by
  refine ⟨fun pins s σ H Q I h => wpAny_Call_Name_kw (ld_glob I hg hm ?_ hdb)⟩
  refine PySem.W.callWith_K (h₀ := X.base) I.ok.mod.kin hk (thn (ha.run pos pins s σ H _ I h) fun us s1 ⟨vs, H1, I1, r, hs⟩ => ⟨I1.kIn, ?_⟩) he hpl
  have hl : us.length = ps.length := by rw [← r.length]; exact F.len _ _ _ _ _ hs
  have b := hb s1 us I1.kIn (by rw [List.append_nil]; exact hl)
  rw [List.append_nil] at b
  have P1 := I1.pin p (List.mem_append_left _ hp)
  have hpin : PinOk X.stack H1 s1 p := ⟨P1.1, P1.2.1, fun hm => (List.mem_cons.mp (I1.stkSub p.1 hm)).elim P1.2.2.1 P1.2.2.2.1, P1.2.2.2.2⟩
  refine wpAny_call (codeAny_mono (F.run X.A X.stack s1 H1 ⟨us, []⟩ us vs Q E p hr hpin I1.env0 b r hs) fun r s' hq => ?_)
  cases r with
  | error e => exact False.elim hq
  | ok fl =>
    cases fl with
    | ret u => exact I1.after hq
    | next => exact False.elim hq
    | brk => exact False.elim hq
    | cont => exact False.elim hq
end LL

set_option Elab.async false
set_option linter.all false
set_option maxRecDepth 100000
set_option maxHeartbeats 400000
namespace LL
open PySem PySem.Spec PyProof.Rows L2
variable [KW]
theorem szL_le {k : Nat} : ∀ {ds : List PyData}, (∀ d ∈ ds, sz d ≤ k) → szL ds ≤ k * ds.length
  | [], _ => by rw [szL_nil]; exact Nat.zero_le _
  | d :: ds, h => by
    have := szL_le (ds := ds) (fun x hx => h x (List.mem_cons_of_mem _ hx))
    have := h d List.mem_cons_self
    rw [szL_cons, List.length_cons, Nat.mul_succ]
    omega
theorem depL_le {k : Nat} : ∀ {ds : List PyData}, (∀ d ∈ ds, dep d ≤ k) → depL ds ≤ k
  | [], _ => by rw [depL_nil]; exact Nat.zero_le _
  | d :: ds, h => by
    have := depL_le (ds := ds) (fun x hx => h x (List.mem_cons_of_mem _ hx))
    have := h d List.mem_cons_self
    rw [depL_cons]
    omega
theorem IsDs.setV {M : List Addr} {H : Hp} {v : V} {d : PyData} (x : Is M H d v) : ∀ {ds : List PyData} {vs : List V} (j : Nat), IsDs M H ds vs → IsDs M H (ds.set j d) (vs.set j v)
  | [], vs, j, y => by
    unfold IsDs at y
    subst y
    exact IsDs.nil
  | e :: ds, vs, 0, y => by
    unfold IsDs at y
    obtain ⟨v', r, rfl, h1, h2⟩ := y
    exact IsDs.cons x h2
  | e :: ds, vs, j + 1, y => by
    unfold IsDs at y
    obtain ⟨v', r, rfl, h1, h2⟩ := y
    exact IsDs.cons h1 (IsDs.setV x j h2)
theorem mem_set {α : Type} {P : α → Prop} {d : α} (hd : P d) : ∀ {ds : List α} (j : Nat), (∀ x ∈ ds, P x) → ∀ x ∈ ds.set j d, P x := fun {ds} j h x hx => by
  rcases List.mem_or_eq_of_mem_set hx with h1 | h1
  · exact h x h1
  · rw [h1]; exact hd
/-- a sheet of good rows, a stream beside it -/
structure ShAt (H : Hp) (s sh : Addr) (rs : List V) (ds : List PyData) : Prop where
  str : StrAt [s] H s
  ne : sh ≠ s
  at_ : H sh = some (.lst rs)
  rd : IsDs [s] H ds rs
  len : ds.length ≤ 200
  sm : ∀ d ∈ ds, Small d
theorem ShAt.adv {H H' : Hp} {s sh : Addr} {rs : List V} {ds : List PyData} (x : ShAt H s sh rs ds) (a : Adv [s] H H') (hs : StrAt [s] H' s) : ShAt H' s sh rs ds :=
  ⟨hs, x.ne, a _ _ (by simpa using x.ne) x.at_, x.rd.adv a, x.len, x.sm⟩
theorem ShAt.same {H H' : Hp} {s sh : Addr} {rs : List V} {ds : List PyData} (x : ShAt H s sh rs ds) (a : Adv [] H H') : ShAt H' s sh rs ds := x.adv (Adv.nil a) (x.str.same a)
theorem ShAt.is {H : Hp} {s sh : Addr} {rs : List V} {ds : List PyData} (x : ShAt H s sh rs ds) : Is [s] H (.list ds) (.ref sh) := Is.lst x.at_ (by simpa using x.ne) x.rd
theorem sm_sz {ds : List PyData} (h : ∀ d ∈ ds, Small d) (hl : ds.length ≤ 200) : szL ds ≤ 800 := by
  have := szL_le (k := 4) (fun d hd => (h d hd).1)
  omega
theorem sm_dep {ds : List PyData} (h : ∀ d ∈ ds, Small d) : depL ds ≤ 1 := depL_le fun d hd => (h d hd).2.1
/-- a copy that is bent -/
structure BtAt (H : Hp) (s bt : Addr) (rs : List V) (ds : List PyData) : Prop where
  str : StrAt [bt, s] H s
  ne : bt ≠ s
  at_ : H bt = some (.lst rs)
  rd : IsDs [bt, s] H ds rs
  len : ds.length ≤ 300
  sm : ∀ d ∈ ds, sz d ≤ 10 ∧ dep d ≤ 3
theorem BtAt.al {H : Hp} {s bt : Addr} {rs : List V} {ds : List PyData} (x : BtAt H s bt rs ds) : ∀ b ∈ [bt, s], H b ≠ none := fun b hb => by
  simp at hb
  rcases hb with h | h
  · rw [h, x.at_]; simp
  · rw [h]; exact x.str.here
theorem BtAt.adv {H H' : Hp} {s bt : Addr} {rs : List V} {ds : List PyData} (x : BtAt H s bt rs ds) (a : Adv [s] H H') (hs : StrAt [bt, s] H' s) : BtAt H' s bt rs ds :=
  ⟨hs, x.ne, a _ _ (by simpa using x.ne) x.at_, x.rd.adv (a.more (by simp)), x.len, x.sm⟩
theorem BtAt.same {H H' : Hp} {s bt : Addr} {rs : List V} {ds : List PyData} (x : BtAt H s bt rs ds) (a : Adv [] H H') : BtAt H' s bt rs ds := x.adv (Adv.nil a) (x.str.same a)
theorem BtAt.is {H : Hp} {s bt : Addr} {rs : List V} {ds : List PyData} (x : BtAt H s bt rs ds) : Is [] H (.list ds) (.ref bt) := Is.lst x.at_ (by simp) (x.rd.less (by simp))
theorem BtAt.szB {H : Hp} {s bt : Addr} {rs : List V} {ds : List PyData} (x : BtAt H s bt rs ds) : sz (.list ds) ≤ 500000 := by
  have := szL_le (k := 10) (fun d hd => (x.sm d hd).1)
  have := x.len
  rw [sz_lst]
  omega
theorem BtAt.depB {H : Hp} {s bt : Addr} {rs : List V} {ds : List PyData} (x : BtAt H s bt rs ds) : dep (.list ds) ≤ 8 := by
  have := depL_le (k := 3) (fun d hd => (x.sm d hd).2)
  rw [dep_lst]
  omega
theorem BtAt.put {H : Hp} {s bt : Addr} {rs : List V} {ds : List PyData} (x : BtAt H s bt rs ds) {v : V} {d : PyData} (j : Nat) (hv : Is [bt, s] H d v) (h1 : sz d ≤ 10) (h2 : dep d ≤ 3) : BtAt (upd H bt (.lst (rs.set j v))) s bt (rs.set j v) (ds.set j d) := by
  have a : Adv [bt] H (upd H bt (.lst (rs.set j v))) := Adv.set (by simp)
  have a2 : Adv [bt, s] H (upd H bt (.lst (rs.set j v))) := a.more (by simp)
  exact ⟨x.str.adv a (by simpa using x.ne.symm) (by simp), x.ne, upd_same, (IsDs.setV hv j x.rd).adv a2, by rw [List.length_set]; exact x.len, mem_set (P := fun d => sz d ≤ 10 ∧ dep d ≤ 3) ⟨h1, h2⟩ j x.sm⟩
theorem BtAt.push {H : Hp} {s bt : Addr} {rs : List V} {ds : List PyData} (x : BtAt H s bt rs ds) {v : V} {d : PyData} (hv : Is [bt, s] H d v) (h1 : sz d ≤ 10) (h2 : dep d ≤ 3) (hl : ds.length ≤ 200) : BtAt (upd H bt (.lst (rs ++ [v]))) s bt (rs ++ [v]) (ds ++ [d]) := by
  have a : Adv [bt] H (upd H bt (.lst (rs ++ [v]))) := Adv.set (by simp)
  have a2 : Adv [bt, s] H (upd H bt (.lst (rs ++ [v]))) := a.more (by simp)
  refine ⟨x.str.adv a (by simpa using x.ne.symm) (by simp), x.ne, upd_same, (x.rd.app (.cons hv .nil)).adv a2, by rw [List.length_append, List.length_singleton]; omega, fun y hy => ?_⟩
  rcases List.mem_append.mp hy with h | h
  · exact x.sm y h
  · rw [List.mem_singleton.mp h]; exact ⟨h1, h2⟩
theorem ShAt.bend {H : Hp} {s sh bt : Addr} {rs : List V} {ds : List PyData} (x : ShAt H s sh rs ds) (n : H bt = none) : BtAt (upd H bt (.lst rs)) s bt rs ds := by
  have ns : s ≠ bt := fun z => x.str.here (by rw [z]; exact n)
  have a : Adv [] H (upd H bt (.lst rs)) := Adv.new n
  exact ⟨(x.str.fresh n).same a, ns.symm, upd_same, (x.rd.fresh n).adv (Adv.nil a), by have := x.len; omega, fun d hd => ⟨by have := (x.sm d hd).1; omega, by have := (x.sm d hd).2.1; omega⟩⟩
theorem BtAt.sheet {H0 H : Hp} {s sh bt : Addr} {rs rs' : List V} {ds ds' : List PyData} (x : BtAt H s bt rs' ds') (y : ShAt H0 s sh rs ds) (n : H0 bt = none) (a : Adv [bt, s] H0 H) : ShAt H s sh rs ds :=
  y.adv (a.drop n) (x.str.less (by simp))
end LL

set_option Elab.async false
set_option linter.all false
set_option maxRecDepth 100000
set_option maxHeartbeats 400000
/-! LNd: the nodes of a right sheet by themselves -/
namespace LL
open PySem PySem.Spec PyProof.Rows L2
variable [KW]
inductive Op3
  | and | or | imp
  deriving DecidableEq
def Op3.str : Op3 → Str
  | .and => "and"
  | .or => "or"
  | .imp => "if"
inductive Nd
  | no | letter (i : Nat) | bin (o : Op3) (j k : Nat) | box (j : Nat)
  deriving DecidableEq
def Nd.keys : Nd → List Key
  | .no => [.inr "no"]
  | .letter i => [.inr "letter", .inl i]
  | .bin o j k => [.inr o.str, .inl j, .inl k]
  | .box j => [.inr "box", .inl j]
def Nd.data (n : Nd) : PyData := .tuple (n.keys.map keyDt)
def Nd.ok (boxed : Bool) (at_ : Nat) : Nd → Bool
  | .no => true
  | .letter i => decide (i ≤ 7)
  | .bin _ j k => decide (j < at_) && decide (k < at_)
  | .box j => boxed && decide (j < at_)
theorem op_inj {o p : Op3} (h : o.str = p.str) : o = p := by
  cases o <;> cases p <;> first | rfl | exact absurd h (by decide)
theorem op_no (o : Op3) : o.str ≠ "no" ∧ o.str ≠ "letter" ∧ o.str ≠ "box" := by cases o <;> decide
theorem keys_inj {m n : Nd} (h : m.keys = n.keys) : m = n := by
  cases m <;> cases n <;> simp only [Nd.keys, List.cons.injEq, Sum.inr.injEq, Sum.inl.injEq, and_true, reduceCtorEq, and_false] at h
  case no.no => rfl
  case letter.letter i j =>
    have := h.2
    congr 1
    omega
  case letter.box i j => exact absurd h.1 (by decide)
  case bin.bin o j k o' j' k' =>
    obtain ⟨h1, h2, h3⟩ := h
    have e1 := op_inj h1
    have e2 : j = j' := by omega
    have e3 : k = k' := by omega
    subst e1; subst e2; subst e3; rfl
  case box.letter i j => exact absurd h.1 (by decide)
  case box.box i j =>
    have := h.2
    congr 1
    omega
theorem Nd.keysD (n : Nd) : LL.keysD n.data = n.keys := by
  cases n <;> rfl
theorem num_nat {lo hi : Int} {p : PyData} (h : isNum lo hi p = true) (h0 : 0 ≤ lo) : ∃ i : Nat, p = .int i ∧ lo ≤ i ∧ (i : Int) ≤ hi := by
  cases p with
  | int i =>
    simp only [isNum, Bool.and_eq_true, decide_eq_true_eq] at h
    exact ⟨i.toNat, by rw [Int.toNat_of_nonneg (by omega)], by omega, by omega⟩
  | _ => cases h
/-- what the check of a node says -/
theorem nodeB_nd {boxed : Bool} {at_ : Nat} {d : PyData} (h : nodeB boxed at_ d = true) : ∃ n : Nd, d = n.data ∧ n.ok boxed at_ = true := by
  unfold nodeB at h
  split at h
  case h_2 => cases h
  rename_i w ps
  split at h
  case isFalse => cases h
  rename_i hn
  have one : ∀ {lo hi : Int} {q : List PyData}, q.length = 1 → 0 ≤ lo → q.all (isNum lo hi) = true → ∃ i : Nat, q = [.int i] ∧ lo ≤ i ∧ (i : Int) ≤ hi := fun {lo hi q} hl h0 ha => by
    match q, hl with
    | [p], _ =>
      simp only [List.all_cons, List.all_nil, Bool.and_true] at ha
      obtain ⟨i, rfl, h1, h2⟩ := num_nat ha h0
      exact ⟨i, rfl, h1, h2⟩
  have two : ∀ {lo hi : Int} {q : List PyData}, q.length = 2 → 0 ≤ lo → q.all (isNum lo hi) = true → ∃ i k : Nat, q = [.int i, .int k] ∧ (i : Int) ≤ hi ∧ (k : Int) ≤ hi := fun {lo hi q} hl h0 ha => by
    match q, hl with
    | [p, r], _ =>
      simp only [List.all_cons, List.all_nil, Bool.and_true, Bool.and_eq_true] at ha
      obtain ⟨i, rfl, h1, h2⟩ := num_nat ha.1 h0
      obtain ⟨k, rfl, h3, h4⟩ := num_nat ha.2 h0
      exact ⟨i, k, rfl, h2, h4⟩
  unfold nItems at hn
  by_cases e1 : w = "letter"
  · subst e1
    rw [if_pos rfl] at hn h
    have hl : ps.length = 1 := by
      have := Option.some.inj hn
      omega
    obtain ⟨i, rfl, h1, h2⟩ := one hl (by omega) h
    exact ⟨.letter i, rfl, by simp only [Nd.ok, decide_eq_true_eq]; omega⟩
  rw [if_neg e1] at hn h
  by_cases e2 : w = "no"
  · subst e2
    rw [if_pos rfl] at hn
    have hl : ps = [] := by
      have := Option.some.inj hn
      exact List.length_eq_zero_iff.mp (by omega)
    subst hl
    exact ⟨.no, rfl, rfl⟩
  rw [if_neg e2] at hn
  have bin : ∀ o : Op3, w = o.str → ps.length = 2 → (if (w = "box" && !boxed) = true then false else ps.all (isNum 0 ((at_ : Int) - 1))) = true → ∃ n : Nd, PyData.tuple (.str w :: ps) = n.data ∧ n.ok boxed at_ = true := fun o ew hl hh => by
    have nb : ¬ (w = "box" && !boxed) = true := by
      intro z
      simp only [Bool.and_eq_true, decide_eq_true_eq] at z
      exact (op_no o).2.2 (by rw [← ew]; exact z.1)
    rw [if_neg nb] at hh
    obtain ⟨i, k, rfl, h2, h3⟩ := two hl (by omega) hh
    subst ew
    exact ⟨.bin o i k, rfl, by simp only [Nd.ok, Bool.and_eq_true, decide_eq_true_eq]; omega⟩
  by_cases e3 : w = "and"
  · subst e3
    rw [if_pos rfl] at hn
    exact bin .and rfl (by have := Option.some.inj hn; omega) h
  rw [if_neg e3] at hn
  by_cases e4 : w = "or"
  · subst e4
    rw [if_pos rfl] at hn
    exact bin .or rfl (by have := Option.some.inj hn; omega) h
  rw [if_neg e4] at hn
  by_cases e5 : w = "if"
  · subst e5
    rw [if_pos rfl] at hn
    exact bin .imp rfl (by have := Option.some.inj hn; omega) h
  rw [if_neg e5] at hn
  by_cases e6 : w = "box"
  · subst e6
    rw [if_pos rfl] at hn
    have hl : ps.length = 1 := by
      have := Option.some.inj hn
      omega
    cases boxed with
    | false => exact absurd h (by simp)
    | true =>
      have h' : ps.all (isNum 0 ((at_ : Int) - 1)) = true := by simpa using h
      obtain ⟨i, rfl, h1, h2⟩ := one hl (by omega) h'
      exact ⟨.box i, rfl, by simp only [Nd.ok, Bool.true_and, decide_eq_true_eq]; omega⟩
  rw [if_neg e6] at hn
  cases hn
/-- a right sheet -/
def okSheet (boxed : Bool) (ns : List Nd) : Prop := ns.Nodup ∧ ∀ (i : Nat) (n : Nd), ns[i]? = some n → n.ok boxed i = true
/-- the row of a node, a new one at the end if there is none -/
def rowF (ns : List Nd) (n : Nd) : Nat × List Nd := if n ∈ ns then (ns.idxOf n, ns) else (ns.length, ns ++ [n])
theorem rowF_lt (ns : List Nd) (n : Nd) : (rowF ns n).1 < (rowF ns n).2.length := by
  unfold rowF
  split
  · exact List.idxOf_lt_length_of_mem (by assumption)
  · simp
theorem rowF_pre (ns : List Nd) (n : Nd) : ns <+: (rowF ns n).2 := by
  unfold rowF
  split
  · exact List.prefix_refl _
  · exact List.prefix_append _ _
theorem rowF_at (ns : List Nd) (n : Nd) : (rowF ns n).2[(rowF ns n).1]? = some n := by
  unfold rowF
  split
  · rename_i h
    have hl := List.idxOf_lt_length_of_mem h
    rw [List.getElem?_eq_getElem hl, List.getElem_idxOf hl]
  · simp
theorem rowF_ok {boxed : Bool} {ns : List Nd} {n : Nd} (h : okSheet boxed ns) (hn : n.ok boxed ns.length = true) : okSheet boxed (rowF ns n).2 := by
  unfold rowF
  split
  · exact h
  · rename_i hm
    refine ⟨?_, fun i m hi => ?_⟩
    · rw [List.nodup_append]
      refine ⟨h.1, by simp, fun a ha b hb => ?_⟩
      rw [List.mem_singleton.mp hb]
      exact fun e => hm (e ▸ ha)
    · rcases Nat.lt_or_ge i ns.length with hl | hl
      · rw [List.getElem?_append_left hl] at hi
        exact h.2 i m hi
      · have e : i = ns.length := by
          have := (List.getElem?_eq_some_iff.mp hi).1
          simp at this
          omega
        subst e
        simp at hi
        subst hi
        exact hn
theorem Nd.ok_mono {boxed : Bool} {i j : Nat} {n : Nd} (h : n.ok boxed i = true) (hij : i ≤ j) : n.ok boxed j = true := by
  cases n <;> simp only [Nd.ok, Bool.and_eq_true, decide_eq_true_eq] at h ⊢ <;> first | exact h | omega | (exact ⟨h.1, by omega⟩)
/-- the row that denies row r -/
def denyF (ns : List Nd) (r : Nat) : Nat × List Nd := rowF (rowF ns .no).2 (.bin .imp r (rowF ns .no).1)
theorem memK_iff {k : List Key} {l : List (List Key)} : memK k l = true ↔ k ∈ l := by
  unfold memK
  rw [List.any_eq_true]
  constructor
  · rintro ⟨x, hx, e⟩
    rw [← of_decide_eq_true e]; exact hx
  · intro h
    exact ⟨k, h, by simp⟩
theorem wrongF_none {most : Int} {boxed : Bool} : ∀ {ds : List PyData} {pre : List Nd}, okSheet boxed pre → wrongF most boxed pre.length (pre.map Nd.keys) ds = none →
    ∃ ns : List Nd, ds = ns.map Nd.data ∧ okSheet boxed (pre ++ ns) ∧ (ns = [] ∨ ((pre.length + ns.length : Nat) : Int) ≤ most)
  | [], pre, hp, _ => ⟨[], rfl, by rw [List.append_nil]; exact hp, .inl rfl⟩
  | d :: ds, pre, hp, h => by
    unfold wrongF at h
    split at h
    case isFalse => cases h
    rename_i hm
    split at h
    case isFalse => cases h
    rename_i hb
    obtain ⟨n, rfl, hn⟩ := nodeB_nd hb
    split at h
    case isTrue => cases h
    rename_i hk
    rw [Nd.keysD] at hk h
    have hnm : n ∉ pre := fun z => hk (memK_iff.mpr (List.mem_map_of_mem z))
    have hp2 : okSheet boxed (pre ++ [n]) := by
      have := rowF_ok hp hn
      unfold rowF at this
      rw [if_neg hnm] at this
      exact this
    have h2 : wrongF most boxed (pre ++ [n]).length ((pre ++ [n]).map Nd.keys) ds = none := by
      rw [List.map_append, List.length_append]
      exact h
    obtain ⟨ns, e, h3, h4⟩ := wrongF_none hp2 h2
    refine ⟨n :: ns, by rw [List.map_cons, ← e], by rw [List.append_assoc] at h3; exact h3, .inr ?_⟩
    rcases h4 with h4 | h4
    · subst h4
      simp only [List.length_cons, List.length_nil]
      omega
    · rw [List.length_append] at h4
      simp only [List.length_cons, List.length_nil] at h4 ⊢
      omega
theorem wrongD_none {most : Int} {boxed : Bool} {d : PyData} (h0 : 0 ≤ most) (h : wrongD most boxed d = none) : ∃ ns : List Nd, d = .list (ns.map Nd.data) ∧ okSheet boxed ns ∧ (ns.length : Int) ≤ most := by
  cases d with
  | list ds =>
    obtain ⟨ns, e, h1, h2⟩ := wrongF_none (pre := []) ⟨List.nodup_nil, fun i n hi => by simp at hi⟩ h
    refine ⟨ns, by rw [e], h1, ?_⟩
    rcases h2 with h2 | h2
    · rw [h2]; exact h0
    · simpa using h2
  | _ => cases h
end LL

set_option Elab.async false
set_option linter.all false
set_option maxRecDepth 100000
set_option maxHeartbeats 400000
/-! LRead: the rows below rows; the three readings of rows, in plain words -/
namespace LL
open PySem PySem.Spec PyProof.Rows L2
variable [KW]
def Nd.parts : Nd → List Nat
  | .no => []
  | .letter _ => []
  | .bin _ j k => [j, k]
  | .box j => [j]
theorem parts_lt {boxed : Bool} {i : Nat} {n : Nd} (h : n.ok boxed i = true) : ∀ p ∈ n.parts, p < i := by
  cases n <;> simp [Nd.ok, Nd.parts] at h ⊢
  · exact h
  · exact h.2
def markP (m : Nat → Bool) (ps : List Nat) : Nat → Bool := fun x => m x || ps.contains x
def markDown (ns : List Nd) : Nat → (Nat → Bool) → Nat → Bool
  | 0, m => m
  | k + 1, m => markDown ns k (if m k = true then markP m ((ns[k]?.getD .no).parts) else m)
theorem markP_keep {m : Nat → Bool} {ps : List Nat} {x : Nat} (h : m x = true) : markP m ps x = true := by
  unfold markP; rw [h]; rfl
theorem markP_new {m : Nat → Bool} {ps : List Nat} {x : Nat} (h : x ∈ ps) : markP m ps x = true := by
  unfold markP
  rw [show ps.contains x = true from by simpa using h, Bool.or_true]
theorem markDown_keep (ns : List Nd) : ∀ (k : Nat) (m : Nat → Bool) (x : Nat), m x = true → markDown ns k m x = true
  | 0, m, x, h => h
  | k + 1, m, x, h => by
    unfold markDown
    refine markDown_keep ns k _ x ?_
    split
    · exact markP_keep h
    · exact h
/-- what stands at k and above isn't changed by the walk from k down -/
theorem markDown_above {boxed : Bool} {ns : List Nd} (ok : okSheet boxed ns) : ∀ (k : Nat) (m : Nat → Bool) (x : Nat), k ≤ ns.length → k ≤ x + 1 → markDown ns k m x = m x
  | 0, m, x, _, _ => rfl
  | k + 1, m, x, hk, hx => by
    unfold markDown
    rw [markDown_above ok k _ x (by omega) (by omega)]
    split
    · have hn : ns[k]? = some ns[k] := List.getElem?_eq_getElem (by omega)
      unfold markP
      rw [hn]
      have hnot : (ns[k] : Nd).parts.contains x = false := by
        refine Bool.eq_false_iff.mpr fun z => ?_
        have hm : x ∈ (ns[k] : Nd).parts := by simpa using z
        have := parts_lt (ok.2 k _ hn) x hm
        omega
      show (m x || (ns[k] : Nd).parts.contains x) = m x
      rw [hnot, Bool.or_false]
    · rfl
theorem markDown_parts {boxed : Bool} {ns : List Nd} (ok : okSheet boxed ns) : ∀ (k : Nat) (m : Nat → Bool) (i : Nat) (n : Nd), k ≤ ns.length → i < k → ns[i]? = some n → markDown ns k m i = true → ∀ p ∈ n.parts, markDown ns k m p = true
  | 0, m, i, n, _, hi, _, _ => by omega
  | k + 1, m, i, n, hk, hi, hn, h => by
    intro p hp
    unfold markDown at h ⊢
    rcases Nat.lt_or_ge i k with hlt | hge
    · exact markDown_parts ok k _ i n (by omega) hlt hn h p hp
    · have e : i = k := by omega
      subst e
      rw [markDown_above ok i _ i (by omega) (by omega)] at h
      have hmi : m i = true := by
        cases q : m i with
        | true => rfl
        | false =>
          rw [q, if_neg Bool.false_ne_true, q] at h
          exact h
      rw [if_pos hmi]
      refine markDown_keep ns i _ p ?_
      rw [hn]
      exact markP_new hp
def marked (ns : List Nd) (rows : List Nat) : Nat → Bool := markDown ns ns.length (markP (fun _ => false) rows)
def belowF (ns : List Nd) (rows : List Nat) : List Nat := (List.range ns.length).filter (marked ns rows)
theorem below_mem {ns : List Nd} {rows : List Nat} {i : Nat} : i ∈ belowF ns rows ↔ i < ns.length ∧ marked ns rows i = true := by
  unfold belowF
  rw [List.mem_filter, List.mem_range]
theorem below_parts {boxed : Bool} {ns : List Nd} {rows : List Nat} (ok : okSheet boxed ns) {i : Nat} {n : Nd} (h : i ∈ belowF ns rows) (hn : ns[i]? = some n) : ∀ p ∈ n.parts, p ∈ belowF ns rows ∧ p < i := fun p hp => by
  obtain ⟨h1, h2⟩ := below_mem.mp h
  have hl := parts_lt (ok.2 i n hn) p hp
  exact ⟨below_mem.mpr ⟨by omega, markDown_parts ok ns.length _ i n (Nat.le_refl _) h1 hn h2 p hp⟩, hl⟩
theorem below_row {ns : List Nd} {rows : List Nat} {r : Nat} (h : r ∈ rows) (hl : r < ns.length) : r ∈ belowF ns rows :=
  below_mem.mpr ⟨hl, markDown_keep ns _ _ _ (markP_new h)⟩
/-! ### the readings -/
inductive W3
  | neg | box | dou
  deriving DecidableEq
def W3.str : W3 → Str
  | .neg => "negative"
  | .box => "boxed"
  | .dou => "doubled"
/-- the node with its parts' new rows -/
def Nd.moved (new : Nat → Nat) : Nd → Nd
  | .bin o j k => .bin o (new j) (new k)
  | .box j => .box (new j)
  | n => n
def stepF (w : W3) (ns : List Nd) (at_ : Nat) (n : Nd) (new : Nat → Nat) : Nat × List Nd :=
  match w, n with
  | _, .no => (at_, ns)
  | .dou, .letter _ => (at_, ns)
  | .neg, .letter _ => denyF (denyF ns at_).2 (denyF ns at_).1
  | .box, .letter _ => rowF ns (.box at_)
  | .neg, .bin .or j k =>
    let a := denyF ns (new j)
    let b := denyF a.2 (new k)
    let c := rowF b.2 (.bin .and a.1 b.1)
    denyF c.2 c.1
  | .box, .bin .imp j k =>
    let a := rowF ns (.bin .imp (new j) (new k))
    rowF a.2 (.box a.1)
  | .dou, .box j =>
    let a := rowF ns (.box (new j))
    rowF a.2 (.bin .and (new j) a.1)
  | _, n => rowF ns (n.moved new)
/-- the rows l, one by one: the grown sheet and what each has become -/
def readF (w : W3) (old : List Nd) : List Nat → List Nd → (Nat → Nat) → List Nd × (Nat → Nat)
  | [], ns, new => (ns, new)
  | i :: l, ns, new =>
    let a := stepF w ns i (old[i]?.getD .no) new
    readF w old l a.2 (fun x => if x = i then a.1 else new x)
end LL

set_option Elab.async false
set_option linter.all false
set_option maxRecDepth 100000
set_option maxHeartbeats 400000
/-! LDx: dicts whose keys are tuples, tracked ones or ones of the written part -/
namespace LL
open PySem PySem.Spec PyProof.Rows L2
variable [KW]
abbrev Ent := List Key × Addr × V
abbrev entKV (p : Ent) : List Key × V := (p.1, p.2.2)
def EntR (p : Ent) (q : List Key × Addr × Value) : Prop := p.1 = q.1 ∧ p.2.1 = q.2.1 ∧ RelV p.2.2 q.2.2
def dxOk (T : Addr) (kas : List Ent) (h : Heap) : Prop := (T == sysModules) = false ∧ kas.length ≤ sizeLine ∧ ∃ xs : List (List Key × Addr × Value), Paired EntR kas xs ∧
  ∃ o es ep, h.get? T = some o ∧ o.ExactDict ∧ o.data = .dict es ep ∧ es.toList = xs.map (fun x => ⟨KW.hs x.1, .ref x.2.1, x.2.2⟩) ∧ (xs.map (·.1)).Nodup
def dxo (T : Addr) (kas : List Ent) : HO := .ext (dxOk T kas)
def putX (kas : List Ent) (k : List Key) (b : Addr) (v : V) : List Ent := if (kas.any fun p => decide (p.1 = k)) = true then kas.map (fun p => if p.1 = k then (p.1, p.2.1, v) else p) else kas ++ [(k, b, v)]
theorem dx_val {kas : List Ent} {xs : List (List Key × Addr × Value)} (r : Paired EntR kas xs) (k : List Key) : RelO (valV (kas.map entKV) k) ((atKey xs k).map (·.2)) := by
  induction r with
  | nil => exact True.intro
  | @cons p q ps qs h t ih =>
    obtain ⟨h1, _, h2⟩ := h
    rw [List.map_cons]
    by_cases e : p.1 = k
    · have e' : q.1 = k := h1.symm.trans e
      have b : atKey (q :: qs) k = some q.2 := by simp [atKey, List.find?_cons, e']
      rw [valV_pos (p := entKV p) e, b]; exact h2
    · have e' : ¬ q.1 = k := fun z => e (h1.trans z)
      have b : atKey (q :: qs) k = atKey qs k := by simp [atKey, List.find?_cons, e']
      rw [valV_neg (p := entKV p) e, b]; exact ih
theorem dx_any {kas : List Ent} {xs : List (List Key × Addr × Value)} (r : Paired EntR kas xs) (k : List Key) : (kas.any fun p => decide (p.1 = k)) = (atKey xs k).isSome := by
  induction r with
  | nil => rfl
  | @cons p q ps qs h t ih =>
    rw [List.any_cons, ih]
    by_cases e : p.1 = k
    · have e' : q.1 = k := h.1.symm.trans e
      have b : atKey (q :: qs) k = some q.2 := by simp [atKey, List.find?_cons, e']
      rw [b, decide_eq_true e]; rfl
    · have e' : ¬ q.1 = k := fun z => e (h.1.trans z)
      have b : atKey (q :: qs) k = atKey qs k := by simp [atKey, List.find?_cons, e']
      rw [b, decide_eq_false e, Bool.false_or]
theorem dx_put {kas : List Ent} {xs : List (List Key × Addr × Value)} (r : Paired EntR kas xs) (k : List Key) (b : Addr) {v : V} {u : Value} (rv : RelV v u) : Paired EntR (putX kas k b v) (storedH xs k b u) := by
  have repl : ∀ {l : List Ent} {m : List (List Key × Addr × Value)}, Paired EntR l m → Paired EntR (l.map fun p => if p.1 = k then (p.1, p.2.1, v) else p) (m.map (putAt k u)) := by
    intro l m q
    induction q with
    | nil => exact .nil
    | @cons p q ps qs h t ih =>
      rw [List.map_cons, List.map_cons]
      refine .cons ?_ ih
      obtain ⟨h1, h2, h3⟩ := h
      unfold putAt
      by_cases e : p.1 = k
      · rw [if_pos e, if_pos (h1.symm.trans e)]; exact ⟨h1, h2, rv⟩
      · rw [if_neg e, if_neg (fun z => e (h1.trans z))]; exact ⟨h1, h2, h3⟩
  unfold putX storedH
  rw [dx_any r k]
  by_cases q : (atKey xs k).isSome = true
  · rw [if_pos q, if_pos q]; exact repl r
  · rw [if_neg q, if_neg q]; exact Paired.snoc r ⟨rfl, rfl, rv⟩
/-- the keys' tuples -/
def KeysAt (K : PySem.W.Frag) (H : Hp) (kas : List Ent) : Prop := ∀ p ∈ kas, SqT K H p.2.1 (p.1.map kV)
/-- what a dict holds at a key -/
def DGX (K : PySem.W.Frag) (H : Hp) (a : Addr) (y : V) (r : Option V) : Prop :=
  ∃ kas k b, H a = some (dxo a kas) ∧ KeysAt K H kas ∧ y = .ref b ∧ SqT K H b (k.map kV) ∧ r = valV (kas.map entKV) k
def DPX (K : PySem.W.Frag) (H : Hp) (a : Addr) (y v : V) (H' : Hp) : Prop :=
  ∃ kas k b, H a = some (dxo a kas) ∧ KeysAt K H kas ∧ y = .ref b ∧ SqT K H b (k.map kV) ∧ kas.length < sizeLine ∧ H' = upd H a (dxo a (putX kas k b v))
section
variable {X : Cx} {w : World} {pins : List (Addr × Obj)} {σ : L2.St} {H : Hp} {s : Shared} {a b : Addr} {y v : V} {u r : Value} {o : Option V} {A : Around} {E : Value → Shared → Prop} {ks : List Key} {kas : List Ent}
theorem key_sq (I : Inv X pins σ H s) (h : SqT X.K H b (ks.map kV)) : (tupleKind (mixKind X.prog X.w)).is s.heap ks b := by
  obtain ⟨its, r, ⟨o, h1, h2, n, h3⟩, _⟩ := I.tuple h
  exact ⟨o, its.toArray, n, h1, h2, h3, by simpa using items_are r⟩
theorem dx_of (W : KWOk X.K X.w) (I : Inv X pins σ H s) (e : H a = some (dxo a kas)) (hk : KeysAt X.K H kas) : (a == sysModules) = false ∧ kas.length ≤ sizeLine ∧
    ∃ xs, Paired EntR kas xs ∧ s.heap.DictOfH (tupleKind (mixKind X.prog X.w)) a xs := by
  obtain ⟨⟨y, z, xs, r, o, es, ep, h1, h2, h3, h4, h5⟩, _, _⟩ := (show ObjOk X.prog X.w H s.heap a (dxo a kas) from I.hok a _ e)
  refine ⟨y, z, xs, r, o, es, ep, h1, h2, h3, ?_, fun x hx => ?_, h5⟩
  · rw [h4]
    refine List.map_congr_left fun x _ => ?_
    unfold entryOfKey
    rw [W.hs X.prog x.1]
  · have all : ∀ {l : List Ent} {m : List (List Key × Addr × Value)}, Paired EntR l m → (∀ p ∈ l, SqT X.K H p.2.1 (p.1.map kV)) → ∀ x ∈ m, (tupleKind (mixKind X.prog X.w)).is s.heap x.1 x.2.1 := by
      intro l m q
      induction q with
      | nil => intro _ x hx; exact nomatch hx
      | @cons p q ps qs hq t ih =>
        intro hp x hx
        rcases List.mem_cons.mp hx with e | hx
        · subst e
          rw [← hq.1, ← hq.2.1]
          exact key_sq I (hp p List.mem_cons_self)
        · exact ih (fun p hp' => hp p (List.mem_cons_of_mem _ hp')) x hx
    exact all r hk x hx
theorem dx_new {h : Heap} {kas : List Ent} {xs : List (List Key × Addr × Value)} {P : Program} {w : World} {H : Hp} (W : ∀ (ks : List Key), KW.hs ks = (tupleKind (mixKind P w)).hash ks) (y : (a == sysModules) = false) (z : kas.length ≤ sizeLine) (r : Paired EntR kas xs) (d : h.DictOfH (tupleKind (mixKind P w)) a xs) :
    ObjOk P w H h a (dxo a kas) := by
  obtain ⟨o, es, ep, h1, h2, h3, h4, _, h5⟩ := d
  refine ⟨⟨y, z, xs, r, o, es, ep, h1, h2, h3, ?_, h5⟩, ⟨o, h1⟩, fun k1 k2 p keep => ?_⟩
  · rw [h4]
    refine List.map_congr_left fun x _ => ?_
    unfold entryOfKey
    rw [W x.1]
  · obtain ⟨y, z, xs, r, o, es, ep, h1, h2⟩ := p
    exact ⟨y, z, xs, r, o, es, ep, keep _ h1, h2⟩
theorem dx_getItem {Q : Value → Shared → Prop} (W : KWOk X.K X.w) (hu : A.units + 1 < cLine) (I : Inv X pins σ H s) (g : DGX X.K H a y (some v)) (ry : RelV y u) (h : ∀ w' s', Inv X pins σ H s' → RelV v w' → Q w' s') :
    wpAny (model X.prog X.w) A (getItem (.ref a) u) Q E s := by
  obtain ⟨kas, k, b, e, hk, ey, eb, l⟩ := g
  subst ey
  cases (show u = Value.ref b from ry)
  obtain ⟨hd, z, xs, rel, dd⟩ := dx_of W I e hk
  obtain ⟨w', hw, rw'⟩ := RelO.some_of (v := v) (o := (atKey xs k).map (·.2)) (by rw [l]; exact dx_val rel k)
  obtain ⟨p, hp, hp2⟩ := Option.map_eq_some_iff.mp hw
  refine wpAny_getItem_heap (tupleKind_room_in1 hu) (key_sq I eb) dd hp ?_
  rw [hp2]
  exact h w' _ (I.tok _) rw'
theorem dx_in {Q : Value → Shared → Prop} (W : KWOk X.K X.w) (hu : A.units + 1 < cLine) (I : Inv X pins σ H s) (g : DGX X.K H a y o) (ry : RelV y u) (h : ∀ s', Inv X pins σ H s' → Q (.bool o.isSome) s') :
    wpAny (model X.prog X.w) A (compareOp .In u (.ref a)) Q E s := by
  obtain ⟨kas, k, b, e, hk, ey, eb, l⟩ := g
  subst ey
  cases (show u = Value.ref b from ry)
  obtain ⟨hd, z, xs, rel, dd⟩ := dx_of W I e hk
  refine wpAny_in_heap (tupleKind_room_in1 hu) (key_sq I eb) hd dd ?_
  have q := (dx_val rel k).isSome_eq
  rw [Option.isSome_map] at q
  rw [← q, ← l]
  exact h _ (I.tok _)
theorem dx_notIn {Q : Value → Shared → Prop} (W : KWOk X.K X.w) (hu : A.units + 1 < cLine) (I : Inv X pins σ H s) (g : DGX X.K H a y o) (ry : RelV y u) (h : ∀ s', Inv X pins σ H s' → Q (.bool (!o.isSome)) s') :
    wpAny (model X.prog X.w) A (compareOp .NotIn u (.ref a)) Q E s := by
  obtain ⟨kas, k, b, e, hk, ey, eb, l⟩ := g
  subst ey
  cases (show u = Value.ref b from ry)
  obtain ⟨hd, z, xs, rel, dd⟩ := dx_of W I e hk
  refine wpAny_notIn_heap (tupleKind_room_in1 hu) (key_sq I eb) hd dd ?_
  have q := (dx_val rel k).isSome_eq
  rw [Option.isSome_map] at q
  rw [← q, ← l]
  exact h _ (I.tok _)
theorem putX_len (kas : List Ent) (k : List Key) (b : Addr) (v : V) : (putX kas k b v).length ≤ kas.length + 1 := by
  unfold putX
  split <;> simp
theorem dx_setItem {H' : Hp} {Q : Unit → Shared → Prop} (W : KWOk X.K X.w) (hu : A.units + 1 < cLine) (I : Inv X pins σ H s) (g : DPX X.K H a y v H') (ry : RelV y u) (rv : RelV v r) (h : ∀ s', Inv X pins σ H' s' → Q () s') :
    wpAny (model X.prog X.w) A (setItem (.ref a) u r) Q E s := by
  obtain ⟨kas, k, b, e, hk, ey, eb, l, eH⟩ := g
  subst ey eH
  cases (show u = Value.ref b from ry)
  obtain ⟨hd, z, xs, rel, dd⟩ := dx_of W I e hk
  have hz : xs.length ≤ sizeLine := by rw [← Paired.length rel]; exact z
  have hl : (putX kas k b v).length ≤ sizeLine := by have := putX_len kas k b v; omega
  refine wpAny_setItem_heap (hsz := hz) (tupleKind_room_in1 hu) (key_sq I eb) dd fun h' dd' hs => h _ ?_
  have he : ∃ q, h'.get? a = some q := let ⟨q, _, _, hq, _⟩ := dd'; ⟨q, hq⟩
  exact d_write I (by rw [e]; exact True.intro) hs he (dx_new (fun ks => W.hs X.prog ks) hd hl (dx_put rel k b rv) dd')
end
def tDGetX (K : PySem.W.Frag) (td ty : TE) : TE := fun σ H Q => td σ H fun x H1 => ty σ H1 fun y H2 => ∃ a v, x = .ref a ∧ DGX K H2 a y (some v) ∧ Q v H2
def tDInX (K : PySem.W.Frag) (ty td : TE) : TE := fun σ H Q => ty σ H fun y H1 => td σ H1 fun x H2 => ∃ a o, x = .ref a ∧ DGX K H2 a y o ∧ Q (.bl o.isSome) H2
def tDNotInX (K : PySem.W.Frag) (ty td : TE) : TE := fun σ H Q => ty σ H fun y H1 => td σ H1 fun x H2 => ∃ a o, x = .ref a ∧ DGX K H2 a y o ∧ Q (.bl (!o.isSome)) H2
def sDPutX (K : PySem.W.Frag) (td ty tv : TE) : TS := fun D σ H => tv σ H fun v H1 => td σ H1 fun x H2 => ty σ H2 fun y H3 => ∃ a H4, x = .ref a ∧ DPX K H3 a y v H4 ∧ D.nx σ H4
def tDNewX : TE := fun _ H Q => ∀ p, H p = none → Q (.ref p) (upd H p (dxo p []))
section
variable {X : Cx} {o i e value : Expr} {pos pos' tpos : Pos} {td ty tv : TE}
theorem dx_typeIs {pins : List (Addr × Obj)} {σ : L2.St} {H : Hp} {s : Shared} {a : Addr} {y : V} {ov : Option V} (I : Inv X pins σ H s) (g : DGX X.K H a y ov) : s.TypeIs (.ref a) "dict" := by
  obtain ⟨kas, k, b, e, _⟩ := g
  obtain ⟨⟨_, _, xs, _, ob, es, ep, h1, h2, _⟩, _⟩ := (show ObjOk X.prog X.w H s.heap a (dxo a kas) from I.hok a _ e)
  exact ⟨ob, h1, h2.1⟩
theorem pe_dgetX (W : KWOk X.K X.w) (hu : X.A.units + 1 < cLine) (ho : PE X o td) (hi : PE X i ty) (hs : NoSl i) : PE X (.Subscript o i pos) (tDGetX X.K td ty) := by
  refine ⟨fun pins s σ H Q I h => ?_⟩
  refine subD_of PySem.F.slot_dict_getitem.lookup hs (thn (ho.run pins s σ H _ I h) fun u s1 ⟨x, H1, I1, rx, q1⟩ => thn (hi.run pins s1 σ H1 _ I1 q1) fun iv s2 ⟨y, H2, I2, ry, a, v, ex, g, q2⟩ => ?_)
  subst ex
  obtain rfl : u = Value.ref a := rx
  exact ⟨dx_typeIs I2 g, dx_getItem W hu I2 g ry fun w' s3 I3 rw' => ⟨v, H2, I3, rw', q2⟩⟩
theorem pc_dinX (W : KWOk X.K X.w) (hu : X.A.units + 1 < cLine) (hi : PE X i ty) (ho : PE X o td) : PC X .In i o (tDInX X.K ty td) := by
  refine ⟨fun pins s σ H Q I h => ?_⟩
  refine thn (hi.run pins s σ H _ I h) fun iv s1 ⟨y, H1, I1, ry, q1⟩ => thn (ho.run pins s1 σ H1 _ I1 q1) fun u s2 ⟨x, H2, I2, rx, a, ov, ex, g, q2⟩ => ?_
  subst ex
  obtain rfl : u = Value.ref a := rx
  exact dx_in W hu I2 g ry fun s3 I3 => ⟨.bl ov.isSome, H2, I3, rfl, q2⟩
theorem pc_dnotinX (W : KWOk X.K X.w) (hu : X.A.units + 1 < cLine) (hi : PE X i ty) (ho : PE X o td) : PC X .NotIn i o (tDNotInX X.K ty td) := by
  refine ⟨fun pins s σ H Q I h => ?_⟩
  refine thn (hi.run pins s σ H _ I h) fun iv s1 ⟨y, H1, I1, ry, q1⟩ => thn (ho.run pins s1 σ H1 _ I1 q1) fun u s2 ⟨x, H2, I2, rx, a, ov, ex, g, q2⟩ => ?_
  subst ex
  obtain rfl : u = Value.ref a := rx
  exact dx_notIn W hu I2 g ry fun s3 I3 => ⟨.bl (!ov.isSome), H2, I3, rfl, q2⟩
theorem ps_dputX (W : KWOk X.K X.w) (hu : X.A.units + 1 < cLine) (ho : PE X o td) (hi : PE X i ty) (hv : PE X value tv) (hs : swapsWith value (some (.Subscript o i pos')) pos.line X.env = pure false) :
    PS X (.Assign [.Subscript o i pos'] value pos) (sDPutX X.K td ty tv) := by
  refine ⟨fun pins s σ H D I h => ?_⟩
  refine wpAny_Assign_Subscript (thn (hv.run pins s σ H _ I h) fun r s1 ⟨v, H1, I1, rv, q1⟩ => thn (ho.run pins s1 σ H1 _ I1 q1) fun u s2 ⟨x, H2, I2, rx, q2⟩ => thn (hi.run pins s2 σ H2 _ I2 q2) fun iv s3 ⟨y, H3, I3, ry, a, H4, ex, g, q3⟩ => ?_) hs
  subst ex
  obtain rfl : u = Value.ref a := rx
  exact dx_setItem W hu I3 g ry rv fun s4 I4 => ⟨σ, H4, I4, q3⟩
theorem pe_dnewX (W : KWOk X.K X.w) : PE X (.Dict [] [] pos) tDNewX := ⟨fun pins s σ H Q I h =>
  wpAny_Dict_empty ⟨.ref s.heap.objs.size, _, I.laid (a := s.heap.objs.size) (o := dxo s.heap.objs.size []) (t' := s.toks) (fun _ _ q => Heap.get?_push_of_some _ q) (Nat.le_refl _)
    (dx_new (xs := []) (fun ks => W.hs X.prog ks) (beq_eq_false_iff_ne.mpr (Ne.symm (Nat.ne_of_lt I.big))) (Nat.zero_le _) .nil ⟨_, #[], 0, Heap.get?_push_size _ rfl, ⟨rfl, rfl, rfl⟩, rfl, rfl, (fun x hx => nomatch hx), List.nodup_nil⟩), rfl, h _ (I.hok.fresh (Nat.le_refl _))⟩⟩
end
end LL

set_option Elab.async false
set_option linter.all false
set_option maxRecDepth 100000
set_option maxHeartbeats 400000
/-! LBkN: a list of nodes and the table of their rows, in the heap -/
namespace LL
open PySem PySem.Spec PyProof.Rows L2
variable [KW]
def tabG : Nat → List Nd → List (List Key × V)
  | _, [] => []
  | k, n :: ns => (n.keys, .int (k : Nat)) :: tabG (k + 1) ns
theorem tab_app : ∀ (k : Nat) (ns ms : List Nd), tabG k (ns ++ ms) = tabG k ns ++ tabG (k + ns.length) ms
  | k, [], ms => by rw [List.nil_append, List.length_nil, Nat.add_zero]; rfl
  | k, n :: ns, ms => by
    rw [List.cons_append, tabG, tab_app (k + 1) ns ms, tabG, List.cons_append, List.length_cons]
    rw [show k + 1 + ns.length = k + (ns.length + 1) from by omega]
theorem tab_len : ∀ (k : Nat) (ns : List Nd), (tabG k ns).length = ns.length
  | _, [] => rfl
  | k, n :: ns => by rw [tabG, List.length_cons, tab_len (k + 1) ns, List.length_cons]
theorem tab_val : ∀ (k : Nat) (ns : List Nd) (n : Nd), valV (tabG k ns) n.keys = if n ∈ ns then some (.int ((k + ns.idxOf n : Nat))) else none
  | k, [], n => by simp [tabG, valV]
  | k, m :: ns, n => by
    unfold tabG
    by_cases e : m = n
    · subst e
      unfold valV
      rw [List.find?_cons]
      simp [List.idxOf_cons]
    · have hk : ¬ m.keys = n.keys := fun z => e (keys_inj z)
      have e2 : (m == n) = false := by simpa using e
      have ih := tab_val (k + 1) ns n
      unfold valV at ih ⊢
      rw [List.find?_cons, decide_eq_false hk]
      show Option.map _ (List.find? _ (tabG (k + 1) ns)) = _
      rw [ih]
      have hm : (n ∈ m :: ns) ↔ n ∈ ns := by
        rw [List.mem_cons]
        exact ⟨fun z => z.resolve_left (fun y => e y.symm), .inr⟩
      by_cases h : n ∈ ns
      · rw [if_pos h, if_pos (hm.mpr h), List.idxOf_cons, e2]
        show some (V.int ((k + 1 + ns.idxOf n : Nat))) = some (V.int ((k + (ns.idxOf n + 1) : Nat)))
        rw [show k + 1 + ns.idxOf n = k + (ns.idxOf n + 1) from by omega]
      · rw [if_neg h, if_neg (fun z => h (hm.mp z))]
/-- a dict at T that holds kvs, its keys' tuples stand -/
structure Tab (M : List Addr) (H : Hp) (T : Addr) (kvs : List (List Key × V)) : Prop where
  ex : ∃ kas : List Ent, H T = some (dxo T kas) ∧ kas.map entKV = kvs ∧ ∀ p ∈ kas, Tp M H p.2.1 (p.1.map kV)
section
variable {M N : List Addr} {H H' : Hp} {T p b : Addr} {kvs : List (List Key × V)} {K : PySem.W.Frag} {w : World} {k : List Key} {v : V}
theorem Tab.adv (x : Tab M H T kvs) (a : Adv N H H') (hT : T ∉ N) (hn : ∀ b ∈ N, b ∈ M) : Tab M H' T kvs := by
  obtain ⟨kas, h1, h2, h3⟩ := x.ex
  exact ⟨⟨kas, a _ _ hT h1, h2, fun q hq => (h3 q hq).adv (a.more hn)⟩⟩
theorem Tab.same (x : Tab M H T kvs) (a : Adv [] H H') : Tab M H' T kvs := x.adv a (by simp) (by simp)
theorem Tab.fresh (x : Tab M H T kvs) (h : H p = none) : Tab (p :: M) H T kvs := by
  obtain ⟨kas, h1, h2, h3⟩ := x.ex
  exact ⟨⟨kas, h1, h2, fun q hq => (h3 q hq).fresh h⟩⟩
theorem Tab.less (x : Tab M H T kvs) (h : ∀ b ∈ N, b ∈ M) : Tab N H T kvs := by
  obtain ⟨kas, h1, h2, h3⟩ := x.ex
  exact ⟨⟨kas, h1, h2, fun q hq => (h3 q hq).less h⟩⟩
theorem Tab.new (h : H T = some (dxo T [])) : Tab M H T [] := ⟨⟨[], h, rfl, fun q hq => nomatch hq⟩⟩
theorem Tab.here (x : Tab M H T kvs) : H T ≠ none := by
  obtain ⟨kas, h1, _⟩ := x.ex
  rw [h1]; simp
theorem Tab.get (W : KWOk K w) (x : Tab M H T kvs) (hb : Tp N H b (k.map kV)) : DGX K H T (.ref b) (valV kvs k) := by
  obtain ⟨kas, h1, h2, h3⟩ := x.ex
  exact ⟨kas, k, b, h1, fun q hq => (h3 q hq).sq W, rfl, hb.sq W, by rw [h2]⟩
theorem putX_map (kas : List Ent) (k : List Key) (b : Addr) (v : V) : (putX kas k b v).map entKV = putK (kas.map entKV) k v := by
  have e : ((kas.map entKV).any fun kv => decide (kv.1 = k)) = kas.any fun p => decide (p.1 = k) := by rw [List.any_map]; rfl
  unfold putX putK
  rw [e]
  split
  · rw [List.map_map, List.map_map]
    refine List.map_congr_left fun q _ => ?_
    show entKV (if q.1 = k then _ else _) = (if (entKV q).1 = k then _ else _)
    by_cases z : q.1 = k
    · rw [if_pos z, if_pos z]
    · rw [if_neg z, if_neg z]
  · rw [List.map_append]; rfl
theorem Tab.put (W : KWOk K w) (x : Tab M H T kvs) (hb : Tp M H b (k.map kV)) (hl : kvs.length < sizeLine) (v : V) :
    ∃ kas' : List Ent, DPX K H T (.ref b) v (upd H T (dxo T kas')) ∧ kas'.map entKV = putK kvs k v ∧ ∀ q ∈ kas', Tp M H q.2.1 (q.1.map kV) := by
  obtain ⟨kas, h1, h2, h3⟩ := x.ex
  refine ⟨putX kas k b v, ⟨kas, k, b, h1, fun q hq => (h3 q hq).sq W, rfl, hb.sq W, by rw [← h2, List.length_map] at hl; exact hl, rfl⟩, by rw [putX_map, h2], fun q hq => ?_⟩
  unfold putX at hq
  split at hq
  · obtain ⟨p', hp', e⟩ := List.mem_map.mp hq
    by_cases z : p'.1 = k
    · rw [if_pos z] at e
      subst e
      exact h3 p' hp'
    · rw [if_neg z] at e
      subst e
      exact h3 p' hp'
  · rcases List.mem_append.mp hq with hq | hq
    · exact h3 q hq
    · rw [List.mem_singleton.mp hq]
      exact hb
/-- the table behind a store: told by its heap -/
theorem Tab.putH (W : KWOk K w) (x : Tab M H T kvs) (mT : T ∈ M) (hb : Tp M H b (k.map kV)) (hl : kvs.length < sizeLine) (v : V) :
    ∃ o : HO, DPX K H T (.ref b) v (upd H T o) ∧ Tab M (upd H T o) T (putK kvs k v) := by
  obtain ⟨kas', g, e, h⟩ := x.put W hb hl v
  exact ⟨_, g, ⟨⟨kas', upd_same, e, fun q hq => (h q hq).adv (Adv.set mT)⟩⟩⟩
end
/-- the list b0 of the nodes ns, the table b1 of their rows -/
structure BkN (M : List Addr) (H : Hp) (b0 b1 : Addr) (ns : List Nd) : Prop where
  rows : ∃ rs, H b0 = some (.lst rs) ∧ IsDs M H (ns.map Nd.data) rs
  tab : Tab M H b1 (tabG 0 ns)
  m0 : b0 ∈ M
  m1 : b1 ∈ M
  ne : b0 ≠ b1
  al : ∀ b ∈ M, H b ≠ none
theorem BkN.adv {M N : List Addr} {H H' : Hp} {b0 b1 : Addr} {ns : List Nd} (x : BkN M H b0 b1 ns) (a : Adv N H H') (h0 : b0 ∉ N) (h1 : b1 ∉ N) (hn : ∀ b ∈ N, b ∈ M) (hal : ∀ b ∈ N, H' b ≠ none) : BkN M H' b0 b1 ns := by
  obtain ⟨⟨rs, e, r⟩, t, m0, m1, ne, al⟩ := x
  exact ⟨⟨rs, a _ _ h0 e, r.adv (a.more hn)⟩, t.adv a h1 hn, m0, m1, ne, alloc_adv al a hal⟩
theorem BkN.same {M : List Addr} {H H' : Hp} {b0 b1 : Addr} {ns : List Nd} (x : BkN M H b0 b1 ns) (a : Adv [] H H') : BkN M H' b0 b1 ns := x.adv a (by simp) (by simp) (by simp) (by simp)
theorem BkN.fresh {M : List Addr} {H : Hp} {b0 b1 p : Addr} {ns : List Nd} (x : BkN M H b0 b1 ns) (h : H p = none) {o : HO} : BkN (p :: M) (upd H p o) b0 b1 ns := by
  have y := x.same (Adv.new (o := o) h)
  obtain ⟨⟨rs, e, r⟩, t, m0, m1, ne, al⟩ := x
  obtain ⟨_, _, _, _, _, al'⟩ := y
  have a : Adv [] H (upd H p o) := Adv.new h
  exact ⟨⟨rs, a.same _ _ e, (r.fresh h).adv (a.more (by simp))⟩, (t.fresh h).same a, by simp [m0], by simp [m1], ne, fun b hb => by
    rcases List.mem_cons.mp hb with z | hb
    · rw [z, upd_same]; simp
    · exact al' b hb⟩
theorem BkN.less {M N : List Addr} {H : Hp} {b0 b1 : Addr} {ns : List Nd} (x : BkN M H b0 b1 ns) (h : ∀ b ∈ N, b ∈ M) (m0 : b0 ∈ N) (m1 : b1 ∈ N) : BkN N H b0 b1 ns := by
  obtain ⟨⟨rs, e, r⟩, t, _, _, ne, al⟩ := x
  exact ⟨⟨rs, e, r.less h⟩, t.less h, m0, m1, ne, fun b hb => al b (h b hb)⟩
theorem ks_of {M : List Addr} {H : Hp} : ∀ (ks : List Key) (ws : List V), IsDs M H (ks.map keyDt) ws → ws = ks.map kV := by
  intro ks
  induction ks with
  | nil => intro ws y; unfold IsDs at y; exact y
  | cons c ks ih =>
    intro ws y
    rw [List.map_cons] at y
    unfold IsDs at y
    obtain ⟨u, r, rfl, h1, h2⟩ := y
    rw [ih r h2]
    cases c with
    | inl i => rw [h1.intE]; rfl
    | inr s => rw [h1.strE]; rfl
theorem nd_is {M : List Addr} {H : Hp} {n : Nd} {v : V} (x : Is M H n.data v) : ∃ a, v = .ref a ∧ Tp M H a (n.keys.map kV) := by
  obtain ⟨a, vs, rfl, ha, hs⟩ := x.tupE
  refine ⟨a, rfl, ?_⟩
  rw [← ks_of _ _ hs]
  exact ha
theorem nd_tp {M : List Addr} {H : Hp} {n : Nd} {a : Addr} (h : Tp M H a (n.keys.map kV)) : Is M H n.data (.ref a) := Is.tp h (ks_data _)
theorem tab_mem (k : Nat) (ns : List Nd) (n : Nd) : memK n.keys ((tabG k ns).map (·.1)) = decide (n ∈ ns) := by
  rw [← val_mem, tab_val]
  by_cases h : n ∈ ns
  · rw [if_pos h, decide_eq_true h]; rfl
  · rw [if_neg h, decide_eq_false h]; rfl
/-- a node is added at the end -/
theorem BkN.push {K : PySem.W.Frag} {w : World} (W : KWOk K w) {M : List Addr} {H : Hp} {b0 b1 a : Addr} {ns : List Nd} {n : Nd} {rs : List V} (x : BkN M H b0 b1 ns) (h0 : H b0 = some (.lst rs)) (ha : Tp M H a (n.keys.map kV)) (hm : n ∉ ns) (hl : ns.length < sizeLine) :
    ∃ o : HO, DPX K H b1 (.ref a) (.int (rs.length : Nat)) (upd H b1 o) ∧ BkN M (upd (upd H b1 o) b0 (.lst (rs ++ [.ref a]))) b0 b1 (ns ++ [n]) := by
  obtain ⟨⟨rs', e, r⟩, t, m0, m1, ne, al⟩ := x
  rw [h0] at e
  cases e
  have hrl := r.len
  rw [List.length_map] at hrl
  obtain ⟨o, g, t2⟩ := t.putH W m1 ha (by rw [tab_len]; exact hl) (.int (rs.length : Nat))
  refine ⟨o, g, ?_⟩
  have a1 : Adv [b0, b1] H (upd H b1 o) := Adv.set (by simp)
  have a2 : Adv [b0] (upd H b1 o) (upd (upd H b1 o) b0 (.lst (rs ++ [.ref a]))) := Adv.set (by simp)
  have aa : Adv [b0, b1] H (upd (upd H b1 o) b0 (.lst (rs ++ [.ref a]))) := a1.trans (a2.more (by simp))
  have mM : ∀ b ∈ [b0, b1], b ∈ M := by simp [m0, m1]
  refine ⟨⟨rs ++ [.ref a], upd_same, ?_⟩, ?_, m0, m1, ne, alloc_adv al aa fun b hb => ?_⟩
  · rw [List.map_append]
    exact (r.adv (aa.more mM)).app (IsDs.one (nd_tp (ha.adv (aa.more mM))))
  · rw [put_new _ _ _ (by rw [tab_mem]; exact decide_eq_false hm)] at t2
    have := t2.adv a2 (by simpa using ne.symm) (by simp [m0])
    rw [tab_app, Nat.zero_add, ← hrl]
    exact this
  · rcases List.mem_cons.mp hb with e | hb
    · rw [e, upd_same]; simp
    · rw [List.mem_singleton.mp hb, upd_ne ne.symm, upd_same]; simp
end LL

set_option Elab.async false
set_option linter.all false
set_option maxRecDepth 100000
set_option maxHeartbeats 400000
/-! LFilt: a filtered comprehension over a range; lists of marks -/
namespace LL
open PySem PySem.Spec PyProof.Rows L2
variable [KW]
def mbV (m : Nat → Bool) (n : Nat) : List V := (List.range n).map fun i => V.bl (m i)
theorem mb_len (m : Nat → Bool) (n : Nat) : (mbV m n).length = n := by unfold mbV; rw [List.length_map, List.length_range]
theorem mb_at {m : Nat → Bool} {n i : Nat} (h : i < n) : (mbV m n)[i]? = some (.bl (m i)) := by
  unfold mbV
  rw [List.getElem?_map, List.getElem?_range h]
  rfl
theorem mb_zero (n : Nat) : (List.replicate n [V.bl false]).flatten = mbV (fun _ => false) n := by
  unfold mbV
  induction n with
  | zero => rfl
  | succ n ih =>
    rw [List.replicate_succ', List.flatten_append, ih, List.range_succ, List.map_append]
    rfl
theorem mb_set {m : Nat → Bool} {n i : Nat} : (mbV m n).set i (.bl true) = mbV (markP m [i]) n := by
  apply List.ext_getElem?
  intro j
  rw [List.getElem?_set]
  by_cases hj : j < n
  · rw [mb_at hj, mb_at hj, mb_len]
    by_cases e : i = j
    · subst e
      rw [if_pos rfl, if_pos hj, markP_new (by simp)]
    · rw [if_neg e]
      have : markP m [i] j = m j := by
        unfold markP
        rw [show [i].contains j = false from by simp; exact fun z => e z.symm, Bool.or_false]
      rw [this]
  · have l1 : (mbV m n)[j]? = none := List.getElem?_eq_none (by rw [mb_len]; omega)
    have l2 : (mbV (markP m [i]) n)[j]? = none := List.getElem?_eq_none (by rw [mb_len]; omega)
    rw [l1, l2, mb_len]
    split
    · split
      · omega
      · rfl
    · rfl
theorem markP_snoc (m : Nat → Bool) (ps : List Nat) (p : Nat) : markP (markP m ps) [p] = markP m (ps ++ [p]) := by
  funext x
  unfold markP
  rw [List.contains_append, Bool.or_assoc]
theorem markP_nil (m : Nat → Bool) : markP m [] = m := by
  funext x
  unfold markP
  simp
section
variable {g : TG} {te : TE} {vs : List Nat} {σ : L2.St} {H1 : Hp} {D : Addr} {Qd : Hp → Prop}
theorem lc_filtR {n : Nat} {tt : TT} (ys : Nat → V) (c : Nat → Bool) (hD : H1 D = none) (hz : n ≤ 1000000)
    (hs : ∀ (i : Nat) (H : Hp) (acc : List V) (R : V → Hp → Prop) (R0 : Hp → Prop), i < n → Adv [] H1 H → H D = some (.lst acc) → (c i = true → ∀ H4, H4 D = some (.lst acc) → Adv [] H1 H4 → R (ys i) H4) →
      (c i = false → ∀ H4, H4 D = some (.lst acc) → Adv [] H1 H4 → R0 H4) → g (.int (0 + (i : Nat))) (wipe σ vs) H fun σ2 H2 => wipe σ2 vs = wipe σ vs ∧ tt σ2 H2 fun b H3 => if b = true then te σ2 H3 R else R0 H3)
    (hd : ∀ H, Adv [] H1 H → H D = some (.lst (((List.range n).filter c).map ys)) → Qd H) :
    ∃ W : Nat → Nat → Hp → Prop, (∃ m, W 0 m (upd H1 D (.lst []))) ∧ ∀ i m H, W i m H →
      ((Itr 0 n).stop i H ∧ Qd H) ∨ ((Itr 0 n).go i H ∧ ∃ Nx : Hp → Prop, (∀ H', Nx H' → ∃ m', m' < m ∧ W (i + 1) m' H') ∧ ∀ x H', (Itr 0 n).yld i H x H' → g x (wipe σ vs) H' fun σ2 H2 => wipe σ2 vs = wipe σ vs ∧ tt σ2 H2 fun b H3 =>
        if b = true then te σ2 H3 fun y H4 => ∃ acc, H4 D = some (.lst acc) ∧ acc.length < sizeLine ∧ Nx (upd H4 D (.lst (acc ++ [y]))) else Nx H3) := by
  refine lc_range (lo := 0) (n := n) (tt := tt) (fun i H => Adv [] H1 H ∧ H D = some (.lst (((List.range i).filter c).map ys))) ⟨Adv.new hD, upd_same⟩ (fun i H hi p => ?_) (fun H p => hd H p.1 p.2)
  refine hs i H _ (fun y H4 => ∃ acc, H4 D = some (.lst acc) ∧ acc.length < sizeLine ∧ Adv [] H1 (upd H4 D (.lst (acc ++ [y]))) ∧ (upd H4 D (.lst (acc ++ [y]))) D = some (.lst (((List.range (i + 1)).filter c).map ys)))
    (fun H3 => Adv [] H1 H3 ∧ H3 D = some (.lst (((List.range (i + 1)).filter c).map ys))) hi p.1 p.2 (fun hc H4 e4 a4 => ⟨_, e4, ?_, Adv.mut a4 hD, ?_⟩) (fun hc H4 e4 a4 => ⟨a4, ?_⟩)
  · have h1 := List.length_filter_le c (List.range i)
    rw [List.length_range] at h1
    rw [List.length_map, sizeLine_eq]
    omega
  · rw [upd_same, range_filt_succ, if_pos hc]
  · rw [e4, range_filt_succ, if_neg (by rw [hc]; decide), List.append_nil]
end
end LL

set_option Elab.async false
set_option linter.all false
set_option maxRecDepth 100000
set_option maxHeartbeats 400000
/-! LNew: a dict from rows to rows -/
namespace LL
open PySem PySem.Spec PyProof.Rows L2
variable [KW]
def newT (l : List Nat) (f : Nat → Nat) : List (Key × V) := l.map fun (i : Nat) => (Sum.inl ((i : Nat) : Int), V.int ((f i : Nat) : Int))
theorem new_val (f : Nat → Nat) : ∀ (l : List Nat) (i : Nat), valV (newT l f) (Sum.inl (i : Int)) = if i ∈ l then some (.int (f i : Nat)) else none
  | [], i => by simp [newT, valV]
  | j :: l, i => by
    unfold newT valV
    rw [List.map_cons, List.find?_cons]
    by_cases e : j = i
    · subst e
      simp
    · have hk : ¬ (Sum.inl (j : Int) : Key) = Sum.inl (i : Int) := fun z => e (by have := Sum.inl.inj z; omega)
      rw [decide_eq_false hk]
      have ih := new_val f l i
      unfold newT valV at ih
      show Option.map _ (List.find? _ (l.map _)) = _
      rw [ih]
      have hm : i ∈ j :: l ↔ i ∈ l := by
        rw [List.mem_cons]
        exact ⟨fun z => z.resolve_left (fun y => e y.symm), .inr⟩
      by_cases h : i ∈ l
      · rw [if_pos h, if_pos (hm.mpr h)]
      · rw [if_neg h, if_neg (fun z => h (hm.mp z))]
theorem new_put {l : List Nat} {f : Nat → Nat} {i r : Nat} (h : i ∉ l) : putK (newT l f) (Sum.inl (i : Int)) (.int (r : Nat)) = newT (l ++ [i]) (fun x => if x = i then r else f x) := by
  have hno : ((newT l f).any fun kv => decide (kv.1 = Sum.inl (i : Int))) = false := by
    refine Bool.eq_false_iff.mpr fun z => ?_
    rw [List.any_eq_true] at z
    obtain ⟨p, hp, e⟩ := z
    unfold newT at hp
    obtain ⟨j, hj, rfl⟩ := List.mem_map.mp hp
    have e' := Sum.inl.inj (of_decide_eq_true e)
    have : j = i := by omega
    exact h (this ▸ hj)
  unfold putK
  rw [hno, if_neg Bool.false_ne_true]
  unfold newT
  rw [List.map_append]
  congr 1
  · apply List.map_congr_left
    intro x hx
    have hne : x ≠ i := fun z => h (by rw [← z]; exact hx)
    simp [hne]
  · simp
end LL

set_option Elab.async false
set_option linter.all false
set_option maxRecDepth 100000
set_option maxHeartbeats 400000
/-! LStep: what a step of a reading keeps -/
namespace LL
open PySem PySem.Spec PyProof.Rows L2
variable [KW]
theorem rowF_len (ns : List Nd) (n : Nd) : (rowF ns n).2.length ≤ ns.length + 1 := by
  unfold rowF
  split <;> simp
theorem denyF_pre (ns : List Nd) (r : Nat) : ns <+: (denyF ns r).2 := by
  unfold denyF
  exact (rowF_pre _ _).trans (rowF_pre _ _)
theorem denyF_len (ns : List Nd) (r : Nat) : (denyF ns r).2.length ≤ ns.length + 2 := by
  unfold denyF
  have h1 := rowF_len ns .no
  have h2 := rowF_len (rowF ns .no).2 (.bin .imp r (rowF ns .no).1)
  omega
theorem stepF_pre (w : W3) (ns : List Nd) (i : Nat) (n : Nd) (f : Nat → Nat) : ns <+: (stepF w ns i n f).2 := by
  unfold stepF
  split
  · exact List.prefix_refl _
  · exact List.prefix_refl _
  · exact (denyF_pre _ _).trans (denyF_pre _ _)
  · exact rowF_pre _ _
  · exact (((denyF_pre _ _).trans (denyF_pre _ _)).trans (rowF_pre _ _)).trans (denyF_pre _ _)
  · exact (rowF_pre _ _).trans (rowF_pre _ _)
  · exact (rowF_pre _ _).trans (rowF_pre _ _)
  · exact rowF_pre _ _
theorem stepF_len (w : W3) (ns : List Nd) (i : Nat) (n : Nd) (f : Nat → Nat) : (stepF w ns i n f).2.length ≤ ns.length + 8 := by
  unfold stepF
  split
  · simp
  · simp
  · have h1 := denyF_len ns i
    have h2 := denyF_len (denyF ns i).2 (denyF ns i).1
    omega
  · have := rowF_len ns (.box i)
    omega
  · rename_i j k
    have h1 := denyF_len ns (f j)
    have h2 := denyF_len (denyF ns (f j)).2 (f k)
    have h3 := rowF_len (denyF (denyF ns (f j)).2 (f k)).2 (.bin .and (denyF ns (f j)).1 (denyF (denyF ns (f j)).2 (f k)).1)
    have h4 := denyF_len (rowF (denyF (denyF ns (f j)).2 (f k)).2 (.bin .and (denyF ns (f j)).1 (denyF (denyF ns (f j)).2 (f k)).1)).2 (rowF (denyF (denyF ns (f j)).2 (f k)).2 (.bin .and (denyF ns (f j)).1 (denyF (denyF ns (f j)).2 (f k)).1)).1
    show (denyF _ _).2.length ≤ _
    omega
  · rename_i j k
    have h1 := rowF_len ns (.bin .imp (f j) (f k))
    have h2 := rowF_len (rowF ns (.bin .imp (f j) (f k))).2 (.box (rowF ns (.bin .imp (f j) (f k))).1)
    show (rowF _ _).2.length ≤ _
    omega
  · rename_i j
    have h1 := rowF_len ns (.box (f j))
    have h2 := rowF_len (rowF ns (.box (f j))).2 (.bin .and (f j) (rowF ns (.box (f j))).1)
    show (rowF _ _).2.length ≤ _
    omega
  · have := rowF_len ns (n.moved f)
    omega
theorem readF_snoc (w : W3) (old : List Nd) : ∀ (l : List Nat) (i : Nat) (ns : List Nd) (f : Nat → Nat),
    readF w old (l ++ [i]) ns f = ((stepF w (readF w old l ns f).1 i (old[i]?.getD .no) (readF w old l ns f).2).2, fun x => if x = i then (stepF w (readF w old l ns f).1 i (old[i]?.getD .no) (readF w old l ns f).2).1 else (readF w old l ns f).2 x)
  | [], i, ns, f => rfl
  | j :: l, i, ns, f => readF_snoc w old l i _ _
theorem readF_pre (w : W3) (old : List Nd) : ∀ (l : List Nat) (ns : List Nd) (f : Nat → Nat), ns <+: (readF w old l ns f).1
  | [], ns, f => List.prefix_refl _
  | j :: l, ns, f => (stepF_pre w ns j _ f).trans (readF_pre w old l _ _)
theorem readF_len (w : W3) (old : List Nd) : ∀ (l : List Nat) (ns : List Nd) (f : Nat → Nat), (readF w old l ns f).1.length ≤ ns.length + 8 * l.length
  | [], ns, f => by simp [readF]
  | j :: l, ns, f => by
    have h1 := stepF_len w ns j (old[j]?.getD .no) f
    have h2 := readF_len w old l (stepF w ns j (old[j]?.getD .no) f).2 (fun x => if x = j then (stepF w ns j (old[j]?.getD .no) f).1 else f x)
    show (readF w old l _ _).1.length ≤ _
    rw [List.length_cons]
    omega
theorem below_take {ns : List Nd} {rows : List Nat} {i r p : Nat} (hr : (belowF ns rows)[i]? = some r) (hp : p ∈ belowF ns rows) (hl : p < r) : p ∈ (belowF ns rows).take i := by
  have hs : (belowF ns rows).Pairwise (· < ·) := List.Pairwise.filter _ List.pairwise_lt_range
  obtain ⟨hi, e⟩ := List.getElem?_eq_some_iff.mp hr
  obtain ⟨j, hj, ej⟩ := List.getElem_of_mem hp
  rcases Nat.lt_or_ge j i with h | h
  · rw [← ej]
    exact List.mem_take_iff_getElem.mpr ⟨j, by omega, rfl⟩
  · rcases Nat.lt_or_eq_of_le h with h | h
    · have := List.pairwise_iff_getElem.mp hs i j hi hj h
      omega
    · subst h
      omega
theorem below_notin {ns : List Nd} {rows : List Nat} {i r : Nat} (hr : (belowF ns rows)[i]? = some r) : r ∉ (belowF ns rows).take i := fun z => by
  have hs : (belowF ns rows).Pairwise (· < ·) := List.Pairwise.filter _ List.pairwise_lt_range
  obtain ⟨hi, e⟩ := List.getElem?_eq_some_iff.mp hr
  obtain ⟨j, hj, ej⟩ := List.getElem_of_mem z
  rw [List.length_take] at hj
  rw [List.getElem_take] at ej
  have := List.pairwise_iff_getElem.mp hs j i (by omega) hi (by omega)
  omega
end LL

set_option Elab.async false
set_option linter.all false
set_option maxRecDepth 100000
set_option maxHeartbeats 400000
/-! LRd: the readings of the constructs as lemmas by their heads, for a reading step by step -/
namespace LL
open PySem PySem.Spec PyProof.Rows L2
variable [KW]
section
variable {σ : L2.St} {H : Hp} {Q : VK} {B : Bool → Hp → Prop} {v x y : V} {ta tb te : TE} {K : PySem.W.Frag} {u t s : TS} {D : Ends} {N : L2.St → Hp → Prop}
theorem rd_var {i : Nat} (h : σ[i]? = some (some v)) (q : Q v H) : tVar i σ H Q := ⟨v, h, q⟩
theorem rd_c (q : Q v H) : tC v σ H Q := q
theorem rd_op {r : R2} (q : ta σ H fun x H1 => tb σ H1 fun y H2 => r x y H2 Q) : tOp r ta tb σ H Q := q
theorem rd_un {r : V → Hp → VK → Prop} (q : ta σ H fun x H1 => r x H1 Q) : tUn r ta σ H Q := q
theorem rd_eq (h : scal x y = true) (q : Q (.bl (decide (x = y))) H) : rEq x y H Q := ⟨h, q⟩
theorem rd_ne (h : scal x y = true) (q : Q (.bl (!decide (x = y))) H) : rNe x y H Q := ⟨h, q⟩
theorem rd_add {i j : Int} (q : Q (.int (i + j)) H) : rAdd (.int i) (.int j) H Q := ⟨i, j, rfl, rfl, q⟩
theorem rd_sub {i j : Int} (q : Q (.int (i - j)) H) : rSub (.int i) (.int j) H Q := ⟨i, j, rfl, rfl, q⟩
theorem rd_i0 {g : Int → Int → V} {i j : Int} (q : Q (g i j) H) : rI0 g (.int i) (.int j) H Q := ⟨i, j, rfl, rfl, q⟩
theorem rd_i {C : Int → Int → Prop} {g : Int → Int → V} {i j : Int} (h : C i j) (q : Q (g i j) H) : rI C g (.int i) (.int j) H Q := ⟨i, j, rfl, rfl, h, q⟩
theorem rd_isN (q : ta σ H fun x H1 => Q (.bl (decide (x = .non))) H1) : tIsN ta σ H Q := q
theorem rd_notN (q : ta σ H fun x H1 => Q (.bl (!decide (x = .non))) H1) : tNotN ta σ H Q := q
theorem rd_test (q : te σ H fun x H' => ∃ k, x = .bl k ∧ B k H') : tTest te σ H B := q
theorem rd_tB (q : te σ H fun x H' => ∃ k, x = .bl k ∧ B k H') : tB te σ H B := q
theorem rd_bl {k : Bool} (q : B k H) : ∃ c, V.bl k = .bl c ∧ B c H := ⟨k, rfl, q⟩
theorem rd_blP {k : Bool} {P : Bool → Prop} (q : P k) : ∃ c, V.bl k = .bl c ∧ P c := ⟨k, rfl, q⟩
theorem rd_and {a b : TT} (q : a σ H fun c H1 => if c = true then b σ H1 B else B false H1) : tAnd a b σ H B := q
theorem rd_or {a b : TT} (q : a σ H fun c H1 => if c = true then B true H1 else b σ H1 B) : tOr a b σ H B := q
theorem rd_not {a : TT} (q : a σ H fun c H1 => B (!c) H1) : tNot a σ H B := q
theorem rd_andV (q : ta σ H fun x H1 => ∃ c, x = .bl c ∧ if c = true then tb σ H1 Q else Q (.bl false) H1) : tAndV ta tb σ H Q := q
theorem rd_orV (q : ta σ H fun x H1 => ∃ c, x = .bl c ∧ if c = true then Q (.bl true) H1 else tb σ H1 Q) : tOrV ta tb σ H Q := q
theorem rd_notV (q : ta σ H fun x H1 => ∃ c, x = .bl c ∧ Q (.bl (!c)) H1) : tNotV ta σ H Q := q
theorem rd_ifE {c : TT} (q : c σ H fun b H1 => if b = true then ta σ H1 Q else tb σ H1 Q) : tIf c ta tb σ H Q := q
/-! statements -/
theorem rd_seq (q : t { D with nx := u D } σ H) : tSeq t u D σ H := q
theorem rd_nx {r : VK} {b c : L2.St → Hp → Prop} (q : N σ H) : tNext ⟨N, r, b, c⟩ σ H := q
theorem rd_ret (q : te σ H D.rt) : tRet te D σ H := q
theorem rd_retN (q : D.rt .non H) : tRetN D σ H := q
theorem rd_drop (q : te σ H fun _ H1 => D.nx σ H1) : tDrop te D σ H := q
theorem rd_asg {g : TG} (q : te σ H fun x H1 => g x σ H1 D.nx) : tAsg te g D σ H := q
theorem rd_gname {i : Nat} (q : N (σ.set i (some v)) H) : gName i v σ H N := q
theorem rd_gsub {i : TE} {f : TSet} (q : ta σ H fun o H1 => i σ H1 fun i H2 => f o i v H2 fun H3 => N σ H3) : gSub ta i f v σ H N := q
theorem rd_gtup {g : TGs} {a : Addr} {n : Nat} {xs : List V} (h : SqT K H a xs) (hl : xs.length = n) (q : g xs σ H N) : gTup K n g (.ref a) σ H N := ⟨a, xs, rfl, h, hl, q⟩
theorem rd_gcons {g : TG} {g' : TGs} {r : List V} (q : g v σ H fun σ' H' => g' r σ' H' N) : gCons g g' (v :: r) σ H N := ⟨v, r, rfl, q⟩
theorem rd_gnil (q : N σ H) : gNil [] σ H N := ⟨rfl, q⟩
theorem rd_ifS {c : TT} (q : c σ H fun b H1 => if b = true then t D σ H1 else u D σ H1) : tIfS c t u D σ H := q
theorem rd_par {i j : Nat} {tt : TA} (q : tt σ H fun vs H1 => ∃ v w, vs = [v, w] ∧ D.nx ((σ.set i (some v)).set j (some w)) H1) : tPar i j tt D σ H := q
theorem rd_two {P : V → V → Prop} (q : P v x) : ∃ a b, [v, x] = [a, b] ∧ P a b := ⟨v, x, rfl, q⟩
theorem rd_par3 {i j l : Nat} {tt : TA} (q : tt σ H fun vs H1 => ∃ u v w, vs = [u, v, w] ∧ D.nx (((σ.set i (some u)).set j (some v)).set l (some w)) H1) : tPar3 i j l tt D σ H := q
theorem rd_three {z : V} {P : V → V → V → Prop} (q : P v x z) : ∃ a b c, [v, x, z] = [a, b, c] ∧ P a b c := ⟨v, x, z, rfl, q⟩
theorem rd_int1 {P : Int → Prop} {R : Prop} {i : Int} (q : P i) : (∃ j, [V.int i] = [V.int j] ∧ P j) ∨ R := .inl ⟨i, rfl, q⟩
theorem rd_for {wi : TI} {g : TG} {tb : TS} (q : wi σ H fun J H1 => ∃ W : Nat → Nat → L2.St → Hp → Prop, (∃ m, W 0 m σ H1) ∧ ∀ i m σ H, W i m σ H →
    (J.stop i H ∧ D.nx σ H) ∨ (J.go i H ∧ ∃ N : L2.St → Hp → Prop, (∀ σ' H', N σ' H' → ∃ m', m' < m ∧ W (i + 1) m' σ' H') ∧ ∀ x H', J.yld i H x H' → g x σ H' fun σ2 H2 => tb { D with nx := N, ct := N, bk := D.nx } σ2 H2)) : tFor wi g tb D σ H := q
theorem rd_rng1 {ta : TA} {R : It → Hp → Prop} (q : ta σ H fun vs H1 => ∃ j : Int, vs = [.int j] ∧ -(2 ^ 62) ≤ j ∧ j < 2 ^ 62 ∧ R (Itr 0 j.toNat) H1) : iRng1 ta σ H R := q
theorem rd_rng2 {ta : TA} {R : It → Hp → Prop} (q : ta σ H fun vs H1 => ∃ i j : Int, vs = [.int i, .int j] ∧ (-(2 ^ 62) ≤ i ∧ i < 2 ^ 62 ∧ -(2 ^ 62) ≤ j ∧ j < 2 ^ 62) ∧ R (Itr i (j - i).toNat) H1) : iRng2 ta σ H R := q
theorem rd_ints1 {P : Int → Prop} {i : Int} (q : P i) : ∃ j, [V.int i] = [V.int j] ∧ P j := ⟨i, rfl, q⟩
theorem rd_ints2 {P : Int → Int → Prop} {i j : Int} (q : P i j) : ∃ a b, [V.int i, V.int j] = [V.int a, V.int b] ∧ P a b := ⟨i, j, rfl, q⟩
/-! arguments, displays -/
theorem rd_nil {A : List V → Hp → Prop} (q : A [] H) : tNil σ H A := q
theorem rd_cons {tr : TA} {A : List V → Hp → Prop} (q : ta σ H fun x H1 => tr σ H1 fun xs H2 => A (x :: xs) H2) : tCons ta tr σ H A := q
theorem rd_tup {tt : TA} (q : tt σ H fun xs H1 => xs.length ≤ sizeLine ∧ ∀ p, H1 p = none → Q (.ref p) (upd H1 p (.tup xs))) : tTup tt σ H Q := q
theorem rd_lst {tt : TA} (q : tt σ H fun xs H1 => xs.length ≤ sizeLine ∧ ∀ p, H1 p = none → Q (.ref p) (upd H1 p (.lst xs))) : tLst tt σ H Q := q
theorem rd_call {sp : Sp} {dvs : List V} {E : XK} {tt : TA} (q : tt σ H fun vs H1 => sp (vs ++ dvs) H1 Q E) : tCall sp dvs E tt σ H Q := q
theorem rd_make {C : Addr} {sp : Sp} {dvs : List V} {E : XK} {tt : TA} (q : tt σ H fun vs H1 => ∀ x dx, H1 x = none → H1 dx = none → dx ≠ x → sp (.ref x :: (vs ++ dvs)) (upd (upd H1 dx (.own x)) x (.ins C dx [])) (fun v H2 => v = .non ∧ Q (.ref x) H2) E) : tMake C sp dvs E tt σ H Q := q
theorem rd_callS {sp : Sp} {E : L2.St → XK} {tt : TA} (q : tt σ H fun vs H1 => sp vs H1 Q (E σ)) : tCallS sp E tt σ H Q := q
theorem rd_cb {r : List V → Hp → VK → Prop} {tt : TA} (q : tt σ H fun vs H1 => r vs H1 Q) : tCB r tt σ H Q := q
theorem rd_meth {C : Addr} {m : Str} {sp : Sp} {dvs : List V} {E : XK} {tt : TA} (q : ta σ H fun x H1 => ∃ a dx fs, x = .ref a ∧ H1 a = some (.ins C dx fs) ∧ fs.lookup m = none ∧ tt σ H1 fun vs H2 => sp (x :: (vs ++ dvs)) H2 Q E) : tMeth C m sp dvs E ta tt σ H Q := q
theorem rd_methA {C a dx : Addr} {fs : List (Str × V)} {m : Str} {T : Prop} (h : H a = some (.ins C dx fs)) (hm : fs.lookup m = none) (q : T) : ∃ a' dx' fs', V.ref a = .ref a' ∧ H a' = some (.ins C dx' fs') ∧ fs'.lookup m = none ∧ T := ⟨a, dx, fs, rfl, h, hm, q⟩
theorem rd_fld {f : Str} (q : ta σ H fun x H1 => ∃ a C dx fs v, x = .ref a ∧ H1 a = some (.ins C dx fs) ∧ Cls K C ∧ NoAttr K C f ∧ fs.lookup f = some v ∧ Q v H1) : tFld K ta f σ H Q := q
theorem rd_fldA {f : Str} {a C dx : Addr} {fs : List (Str × V)} (h : H a = some (.ins C dx fs)) (hc : Cls K C) (hn : NoAttr K C f) (hl : fs.lookup f = some v) {P : V → Prop} (q : P v) :
    ∃ a' C' dx' fs' v', V.ref a = .ref a' ∧ H a' = some (.ins C' dx' fs') ∧ Cls K C' ∧ NoAttr K C' f ∧ fs'.lookup f = some v' ∧ P v' := ⟨a, C, dx, fs, v, rfl, h, hc, hn, hl, q⟩
theorem rd_part {Z : Option Int → Hp → Prop} (q : te σ H fun x H1 => ∃ i, x = .int i ∧ Z (some i) H1) : tPart te σ H Z := q
theorem rd_nopart {Z : Option Int → Hp → Prop} (q : Z none H) : tNoPart σ H Z := q
theorem rd_int {P : Int → Prop} {i : Int} (q : P i) : ∃ j, V.int i = .int j ∧ P j := ⟨i, rfl, q⟩
theorem rd_sl {r : V → Option Int → Option Int → Hp → VK → Prop} {tl th : TO} (q : te σ H fun x H1 => tl σ H1 fun l H2 => th σ H2 fun u H3 => r x l u H3 Q) : tSl r te tl th σ H Q := q
theorem rd_bm {T : String} {r : V → List V → Hp → VK → Prop} {tt : TA} (q : te σ H fun x H1 => tyV K T x H1 ∧ tt σ H1 fun xs H2 => r x xs H2 Q) : tBM K T r te tt σ H Q := q
theorem rd_bm0 {T : String} {r : V → List V → Hp → VK → Prop} (q : te σ H fun x H1 => tyV K T x H1 ∧ r x [] H1 Q) : tBM0 K T r te σ H Q := q
theorem rd_tyL {a : Addr} {xs : List V} {T : Prop} (h : H a = some (.lst xs)) (q : T) : tyV K "list" (.ref a) H ∧ T := ⟨.inl ⟨rfl, _, SqL.of h⟩, q⟩
/-! readings of the heap -/
theorem rd_slL {a : Addr} {xs : List V} {lo hi : Option Int} (h : H a = some (.lst xs)) (q : ∀ p, H p = none → Q (.ref p) (upd H p (.lst (cutV xs lo hi)))) : rSlL K (.ref a) lo hi H Q := ⟨a, xs, rfl, SqL.of h, q⟩
theorem rd_cat {l b : Addr} {xs zs : List V} (h : H l = some (.lst xs)) (h2 : H b = some (.lst zs)) (hl : xs.length + zs.length ≤ sizeLine) (q : ∀ p, H p = none → Q (.ref p) (upd H p (.lst (xs ++ zs)))) : rCat (.ref l) (.ref b) H Q := ⟨l, b, xs, zs, rfl, rfl, h, h2, hl, q⟩
theorem rd_u {g : Int → V} {i : Int} (q : Q (g i) H) : rU g (.int i) H Q := ⟨i, rfl, q⟩
theorem rd_ixL {p : Addr} {xs : List V} {i : Int} (h : H p = some (.lst xs)) (e : atI xs i = some v) (q : Q v H) : rIxL K (.ref p) (.int i) H Q := ⟨p, xs, i, v, rfl, rfl, SqL.of h, e, q⟩
theorem rd_ixT {p : Addr} {xs : List V} {i : Int} (h : SqT K H p xs) (e : atI xs i = some v) (q : Q v H) : rIxT K (.ref p) (.int i) H Q := ⟨p, xs, i, v, rfl, rfl, h, e, q⟩
theorem rd_lenT {xs : List V} {p : Addr} {P : List V → Prop} (h : SqT K H p xs) (q : P xs) : ∃ (p' : Addr) (xs' : List V), [V.ref p] = [V.ref p'] ∧ (SqL K H p' xs' ∨ SqT K H p' xs') ∧ P xs' := ⟨p, xs, rfl, .inr h, q⟩
theorem rd_len {xs : List V} {p : Addr} {P : List V → Prop} (h : H p = some (.lst xs)) (q : P xs) : ∃ (p' : Addr) (xs' : List V), [V.ref p] = [V.ref p'] ∧ (SqL K H p' xs' ∨ SqT K H p' xs') ∧ P xs' := ⟨p, xs, rfl, .inl (SqL.of h), q⟩
theorem rd_app {l : Addr} {xs : List V} (h : H l = some (.lst xs)) (hl : xs.length < sizeLine) (q : Q .non (upd H l (.lst (xs ++ [y])))) : rAppend (.ref l) [y] H Q := ⟨l, xs, y, rfl, rfl, h, hl, q⟩
theorem rd_slT {a : Addr} {xs : List V} {lo hi : Option Int} (h : H a = some (.tup xs)) : rSlT K (.ref a) lo hi H Q ↔ rSlT K (.ref a) lo hi H Q := Iff.rfl
theorem rd_dgetT {td ty : TE} (q : td σ H fun x H1 => ty σ H1 fun y H2 => ∃ a v, x = .ref a ∧ DGet H2 a y (some v) ∧ Q v H2) : tDGet td ty σ H Q := q
theorem rd_dget {a : Addr} {P : V → Prop} (h : DGet H a y (some v)) (q : P v) : ∃ a' v', V.ref a = .ref a' ∧ DGet H a' y (some v') ∧ P v' := ⟨a, v, rfl, h, q⟩
theorem rd_dgx {a : Addr} {P : V → Prop} (h : DGX K H a y (some v)) (q : P v) : ∃ a' v', V.ref a = .ref a' ∧ DGX K H a' y (some v') ∧ P v' := ⟨a, v, rfl, h, q⟩
theorem rd_din {td ty : TE} (q : ty σ H fun y H1 => td σ H1 fun x H2 => ∃ a o, x = .ref a ∧ DGet H2 a y o ∧ Q (.bl o.isSome) H2) : tDIn ty td σ H Q := q
theorem rd_dnin {td ty : TE} (q : ty σ H fun y H1 => td σ H1 fun x H2 => ∃ a o, x = .ref a ∧ DGet H2 a y o ∧ Q (.bl (!o.isSome)) H2) : tDNotIn ty td σ H Q := q
end
theorem rd_rfl {α : Type} {x : α} {T : Prop} (q : T) : x = x ∧ T := ⟨rfl, q⟩
theorem Adv.get' {M : List Addr} {H H' : Hp} {p : Addr} {o : HO} (a : Adv M H H') (e : H p = some o) (hp : p ∉ M) : H' p = some o := a p o hp e
theorem notin2 {a b c : Addr} (h : a ≠ b) (h' : a ≠ c) : a ∉ [b, c] := by simp [h, h']
theorem notin1 {a b : Addr} (h : a ≠ b) : a ∉ [b] := by simp [h]
theorem notin0 {a : Addr} : a ∉ ([] : List Addr) := by simp
end LL

set_option Elab.async false
set_option linter.all false
set_option maxRecDepth 100000
set_option maxHeartbeats 400000
/-! LDue: the answers of the three readings, in plain words -/
namespace LL
open PySem PySem.Spec PyProof.Rows L2
variable [KW]
def W3.boxes : W3 → Bool
  | .dou => true
  | _ => false
def lenD : PyData → Nat
  | .list ds => ds.length
  | _ => 0
/-- the grown sheet and the rows' readings -/
def readA (w : W3) (ns : List Nd) (row : Nat) : List Nd × (Nat → Nat) := readF w ns (belowF ns [row]) ns (fun _ => 0)
/-- what is due -/
inductive Due (w : W3) (d r : PyData) : PyData → Prop
  | sheet (i : Int) (h : wrongD 5000 w.boxes d = some i) : Due w d r (.tuple [.str "BadSheet", .int i])
  | value (h : wrongD 5000 w.boxes d = none) (h2 : isNum 0 ((lenD d : Int) - 1) r = false) : Due w d r (.tuple [.str "BadValue", .str "row"])
  | told (ns : List Nd) (row : Nat) (h : wrongD 5000 w.boxes d = none) (hd : d = .list (ns.map Nd.data)) (ok : okSheet w.boxes ns) (hl : ns.length ≤ 5000) (hr : r = .int row) (hlt : row < ns.length) :
      Due w d r (.tuple [.str "told", .tuple [.list ((readA w ns row).1.map Nd.data), .int ((readA w ns row).2 row : Nat)]])
theorem due_ex (w : W3) (d r : PyData) : ∃ e, Due w d r e := by
  cases h : wrongD 5000 w.boxes d with
  | some i => exact ⟨_, .sheet i h⟩
  | none =>
    cases h2 : isNum 0 ((lenD d : Int) - 1) r with
    | false => exact ⟨_, .value h h2⟩
    | true =>
      obtain ⟨ns, rfl, ok, hl⟩ := wrongD_none (by decide) h
      obtain ⟨i, rfl, h3, h4⟩ := num_nat h2 (by decide)
      have e : lenD (.list (ns.map Nd.data)) = ns.length := by show (ns.map Nd.data).length = ns.length; rw [List.length_map]
      rw [e] at h4
      exact ⟨_, .told ns i h rfl ok (by omega) rfl (by omega)⟩
theorem nd_data_inj {m n : Nd} (h : m.data = n.data) : m = n := by
  have : m.keys = n.keys := by rw [← Nd.keysD, ← Nd.keysD, h]
  exact keys_inj this
theorem nds_inj : ∀ {ms ns : List Nd}, ms.map Nd.data = ns.map Nd.data → ms = ns
  | [], [], _ => rfl
  | [], n :: ns, h => by simp at h
  | m :: ms, [], h => by simp at h
  | m :: ms, n :: ns, h => by
    rw [List.map_cons, List.map_cons] at h
    injection h with h1 h2
    rw [nd_data_inj h1, nds_inj h2]
theorem nd_sz (n : Nd) : sz n.data ≤ 4 := by
  unfold Nd.data
  rw [sz_tup, ks_sz]
  cases n <;> simp [Nd.keys]
theorem nds_sz (ns : List Nd) : szL (ns.map Nd.data) ≤ 4 * ns.length := by
  induction ns with
  | nil => rw [List.map_nil, szL_nil]; exact Nat.zero_le _
  | cons n ns ih =>
    rw [List.map_cons, szL_cons, List.length_cons]
    have := nd_sz n
    omega
theorem below_len (ns : List Nd) (rows : List Nat) : (belowF ns rows).length ≤ ns.length := by
  have := List.length_filter_le (marked ns rows) (List.range ns.length)
  rw [List.length_range] at this
  exact this
theorem readA_len (w : W3) (ns : List Nd) (row : Nat) : (readA w ns row).1.length ≤ 9 * ns.length := by
  have h1 := readF_len w ns (belowF ns [row]) ns (fun _ => 0)
  have h2 := below_len ns [row]
  unfold readA
  omega
theorem due_sz {w : W3} {d r e : PyData} (h : Due w d r e) : sz e ≤ 1000000 := by
  cases h with
  | sheet i h => rw [sz_tup, szL_cons, szL_cons, szL_nil]; unfold sz; decide
  | value h h2 => rw [sz_tup, szL_cons, szL_cons, szL_nil]; unfold sz; decide
  | told ns row h hd ok hl hr hlt =>
    have h1 := nds_sz (readA w ns row).1
    have h2 := readA_len w ns row
    rw [sz_tup, szL_cons, szL_cons, szL_nil, sz_tup, szL_cons, szL_cons, szL_nil, sz_lst]
    have e1 : ∀ x, sz (.str x) = 1 := fun x => by unfold sz; rfl
    have e2 : ∀ x, sz (.int x) = 1 := fun x => by unfold sz; rfl
    rw [e1, e2]
    omega
theorem due_sheet {w : W3} {d r e : PyData} {i : Int} (h : Due w d r e) (hi : wrongD 5000 w.boxes d = some i) : e = .tuple [.str "BadSheet", .int i] := by
  cases h with
  | sheet j h => rw [hi] at h; cases h; rfl
  | value h _ => rw [hi] at h; cases h
  | told _ _ h => rw [hi] at h; cases h
theorem due_value {w : W3} {d r e : PyData} (h : Due w d r e) (hi : wrongD 5000 w.boxes d = none) (h2 : isNum 0 ((lenD d : Int) - 1) r = false) : e = .tuple [.str "BadValue", .str "row"] := by
  cases h with
  | sheet j h => rw [hi] at h; cases h
  | value h _ => rfl
  | told ns row h hd ok hl hr hlt =>
    subst hd hr
    have el : lenD (.list (ns.map Nd.data)) = ns.length := by show (ns.map Nd.data).length = ns.length; rw [List.length_map]
    rw [el] at h2
    simp [isNum] at h2
    omega
theorem due_told {w : W3} {d r e : PyData} (h : Due w d r e) {ns : List Nd} {row : Nat} (hi : wrongD 5000 w.boxes d = none) (hd : d = .list (ns.map Nd.data)) (hr : r = .int (row : Nat)) (hlt : row < ns.length) :
    e = .tuple [.str "told", .tuple [.list ((readA w ns row).1.map Nd.data), .int ((readA w ns row).2 row : Nat)]] := by
  cases h with
  | sheet j h => rw [hi] at h; cases h
  | value h h2 =>
    subst hd hr
    have el : lenD (.list (ns.map Nd.data)) = ns.length := by show (ns.map Nd.data).length = ns.length; rw [List.length_map]
    rw [el] at h2
    simp [isNum] at h2
    omega
  | told ns' row' h hd' ok hl hr' hlt' =>
    rw [hd] at hd'
    have e1 : ns.map Nd.data = ns'.map Nd.data := by injection hd'
    have e2 := nds_inj e1
    rw [hr] at hr'
    have e3 : (row : Int) = row' := by injection hr'
    have e4 : row = row' := by omega
    subst e2 e4
    rfl
end LL

set_option Elab.async false
set_option linter.all false
set_option maxRecDepth 100000
set_option maxHeartbeats 400000
/-! LDw: a stream s and a book bk (a list b0 of nodes, their table b1) while formulas are drawn -/
namespace LL
open PySem PySem.Spec PyProof.Rows L2
variable [KW]
structure Dw (M : List Addr) (H : Hp) (s bk b0 b1 : Addr) (bx : Bool) (ns : List Nd) : Prop where
  str : StrAt M H s
  hbk : H bk = some (.lst [.ref b0, .ref b1])
  ms : s ∈ M
  kM : bk ∉ M
  s0 : s ≠ b0
  s1 : s ≠ b1
  B : BkN M H b0 b1 ns
  ok : okSheet bx ns
section
variable {M N : List Addr} {H H' : Hp} {s bk b0 b1 p : Addr} {bx : Bool} {ns : List Nd} {o : HO}
theorem Dw.ks (x : Dw M H s bk b0 b1 bx ns) : bk ∉ [s] := by simp; exact fun z => x.kM (by rw [z]; exact x.ms)
theorem Dw.kb (x : Dw M H s bk b0 b1 bx ns) : bk ∉ [b0, b1] := fun z => by
  rcases List.mem_cons.mp z with z | z
  · exact x.kM (by rw [z]; exact x.B.m0)
  · exact x.kM (by rw [List.mem_singleton.mp z]; exact x.B.m1)
theorem Dw.next (x : Dw M H s bk b0 b1 bx ns) (a : Adv [s] H H') (hs : StrAt M H' s) : Dw M H' s bk b0 b1 bx ns :=
  ⟨hs, a _ _ x.ks x.hbk, x.ms, x.kM, x.s0, x.s1, x.B.adv a (by simpa using x.s0.symm) (by simpa using x.s1.symm) (by simp [x.ms]) (by simpa using hs.here), x.ok⟩
theorem Dw.same (x : Dw M H s bk b0 b1 bx ns) (a : Adv [] H H') : Dw M H' s bk b0 b1 bx ns :=
  ⟨x.str.same a, a.same _ _ x.hbk, x.ms, x.kM, x.s0, x.s1, x.B.same a, x.ok⟩
theorem Dw.free (x : Dw M H s bk b0 b1 bx ns) (h : H p = none) : p ∉ M ∧ p ≠ s ∧ p ≠ bk ∧ p ≠ b0 ∧ p ≠ b1 := by
  have hm : p ∉ M := fun z => x.B.al p z h
  refine ⟨hm, fun z => hm (by rw [z]; exact x.ms), fun z => ?_, fun z => hm (by rw [z]; exact x.B.m0), fun z => hm (by rw [z]; exact x.B.m1)⟩
  rw [z, x.hbk] at h; cases h
theorem Dw.fresh (x : Dw M H s bk b0 b1 bx ns) (h : H p = none) : Dw (p :: M) (upd H p o) s bk b0 b1 bx ns := by
  have hf := x.free h
  exact ⟨(x.str.fresh h).same (Adv.new h), by rw [upd_ne hf.2.2.1.symm]; exact x.hbk, by simp [x.ms], by simp [hf.2.2.1.symm, x.kM], x.s0, x.s1, x.B.fresh h, x.ok⟩
theorem Dw.less (x : Dw M H s bk b0 b1 bx ns) (h : ∀ b ∈ N, b ∈ M) (ms : s ∈ N) (m0 : b0 ∈ N) (m1 : b1 ∈ N) : Dw N H s bk b0 b1 bx ns :=
  ⟨x.str.less h, x.hbk, ms, fun z => x.kM (h _ z), x.s0, x.s1, x.B.less h m0 m1, x.ok⟩
/-- an object of M that is neither the stream nor the book is changed -/
theorem Dw.put (x : Dw M H s bk b0 b1 bx ns) (hp : p ∈ M) (n0 : p ≠ s) (n1 : p ≠ b0) (n2 : p ≠ b1) : Dw M (upd H p o) s bk b0 b1 bx ns := by
  have a : Adv [p] H (upd H p o) := Adv.set (by simp)
  have kp : bk ≠ p := fun z => x.kM (by rw [z]; exact hp)
  exact ⟨x.str.adv a (by simpa using n0.symm) (by simp [hp]), by rw [upd_ne kp]; exact x.hbk, x.ms, x.kM, x.s0, x.s1, x.B.adv a (by simpa using n1.symm) (by simpa using n2.symm) (by simp [hp]) (by simp [upd_same]), x.ok⟩
theorem Dw.row {n : Nd} (x : Dw M H s bk b0 b1 bx ns) (hn : n.ok bx ns.length = true) (a : Adv [b0, b1] H H') (B : BkN M H' b0 b1 (rowF ns n).2) : Dw M H' s bk b0 b1 bx (rowF ns n).2 :=
  ⟨x.str.adv a (notin2 x.s0 x.s1) (by simp [x.B.m0, x.B.m1]), a _ _ x.kb x.hbk, x.ms, x.kM, x.s0, x.s1, B, rowF_ok x.ok hn⟩
theorem a_s {b : Addr} {c : Addr} (a : Adv [s] H H') : Adv [s, b, c] H H' := a.more (by simp)
theorem a_b {b c : Addr} (a : Adv [b, c] H H') : Adv [s, b, c] H H' := a.more (by simp +contextual)
end
/-- what a draw hands back -/
structure Dn (c : Nat) (M : List Addr) (s bk b0 b1 : Addr) (bx : Bool) (ns : List Nd) (H : Hp) (r : Nat) (ns' : List Nd) (H' : Hp) : Prop where
  pre : ns <+: ns'
  lt : r < ns'.length
  le : ns'.length ≤ ns.length + c
  D : Dw M H' s bk b0 b1 bx ns'
  a : Adv [s, b0, b1] H H'
theorem Dn.ge {c : Nat} {M : List Addr} {s bk b0 b1 : Addr} {bx : Bool} {ns : List Nd} {H : Hp} {r : Nat} {ns' : List Nd} {H' : Hp} (x : Dn c M s bk b0 b1 bx ns H r ns' H') : ns.length ≤ ns'.length := x.pre.length_le
end LL

set_option Elab.async false
set_option linter.all false
set_option maxRecDepth 100000
set_option maxHeartbeats 400000
/-! LOk: a reading keeps a sheet right -/
namespace LL
open PySem PySem.Spec PyProof.Rows L2
variable [KW]
theorem denyF_ok {bx : Bool} {ns : List Nd} {r : Nat} (ok : okSheet bx ns) (h : r < ns.length) : okSheet bx (denyF ns r).2 ∧ (denyF ns r).1 < (denyF ns r).2.length := by
  have o1 : okSheet bx (rowF ns .no).2 := rowF_ok ok rfl
  have l1 := rowF_lt ns .no
  have p1 := (rowF_pre ns .no).length_le
  unfold denyF
  exact ⟨rowF_ok o1 (by simp only [Nd.ok, Bool.and_eq_true, decide_eq_true_eq]; omega), rowF_lt _ _⟩
theorem moved_ok {bx : Bool} {ns : List Nd} {n : Nd} {f : Nat → Nat} {i : Nat} (hn : n.ok bx i = true) (hf : ∀ p ∈ n.parts, f p < ns.length) : (n.moved f).ok bx ns.length = true := by
  cases n with
  | no => rfl
  | letter j => exact hn
  | bin o j k =>
    simp only [Nd.moved, Nd.ok, Bool.and_eq_true, decide_eq_true_eq]
    exact ⟨hf j (by simp [Nd.parts]), hf k (by simp [Nd.parts])⟩
  | box j =>
    simp only [Nd.moved, Nd.ok, Bool.and_eq_true, decide_eq_true_eq] at hn ⊢
    exact ⟨hn.1, hf j (by simp [Nd.parts])⟩
theorem step1 {bx : Bool} {ns : List Nd} {n : Nd} (ok : okSheet bx ns) (hn : n.ok bx ns.length = true) : okSheet bx (rowF ns n).2 ∧ (rowF ns n).1 < (rowF ns n).2.length ∧ ns.length ≤ (rowF ns n).2.length :=
  ⟨rowF_ok ok hn, rowF_lt _ _, (rowF_pre ns n).length_le⟩
theorem stepF_ok {w : W3} {bx : Bool} {ns : List Nd} {n : Nd} {i : Nat} {f : Nat → Nat} (hw : w = .neg ∨ bx = true) (ok : okSheet bx ns) (hn : n.ok bx i = true) (hi : i < ns.length) (hf : ∀ p ∈ n.parts, f p < ns.length) :
    okSheet bx (stepF w ns i n f).2 ∧ (stepF w ns i n f).1 < (stepF w ns i n f).2.length := by
  have hm := moved_ok (ns := ns) hn hf
  have plain : okSheet bx (rowF ns (n.moved f)).2 ∧ (rowF ns (n.moved f)).1 < (rowF ns (n.moved f)).2.length := ⟨(step1 ok hm).1, (step1 ok hm).2.1⟩
  unfold stepF
  split
  · exact ⟨ok, hi⟩
  · exact ⟨ok, hi⟩
  · obtain ⟨o1, l1⟩ := denyF_ok ok hi
    exact denyF_ok o1 l1
  · rcases hw with hw | hw
    · cases hw
    · have := step1 ok (n := .box i) (by simp only [Nd.ok, Bool.and_eq_true, decide_eq_true_eq]; exact ⟨hw, hi⟩)
      exact ⟨this.1, this.2.1⟩
  · rename_i j k
    have hj := hf j (by simp [Nd.parts])
    have hk := hf k (by simp [Nd.parts])
    obtain ⟨o1, l1⟩ := denyF_ok ok hj
    have p1 := (denyF_pre ns (f j)).length_le
    obtain ⟨o2, l2⟩ := denyF_ok o1 (r := f k) (by omega)
    have p2 := (denyF_pre (denyF ns (f j)).2 (f k)).length_le
    obtain ⟨o3, l3, p3⟩ := step1 o2 (n := .bin .and (denyF ns (f j)).1 (denyF (denyF ns (f j)).2 (f k)).1) (by simp only [Nd.ok, Bool.and_eq_true, decide_eq_true_eq]; omega)
    exact denyF_ok o3 l3
  · rename_i j k
    obtain ⟨o1, l1, p1⟩ := step1 ok (n := .bin .imp (f j) (f k)) hm
    rcases hw with hw | hw
    · cases hw
    · have := step1 o1 (n := .box (rowF ns (.bin .imp (f j) (f k))).1) (by simp only [Nd.ok, Bool.and_eq_true, decide_eq_true_eq]; exact ⟨hw, l1⟩)
      exact ⟨this.1, this.2.1⟩
  · rename_i j
    have hj := hf j (by simp [Nd.parts])
    obtain ⟨o1, l1, p1⟩ := step1 ok (n := .box (f j)) hm
    have := step1 o1 (n := .bin .and (f j) (rowF ns (.box (f j))).1) (by simp only [Nd.ok, Bool.and_eq_true, decide_eq_true_eq]; omega)
    exact ⟨this.1, this.2.1⟩
  · exact plain
theorem readF_ok {w : W3} {bx : Bool} {old : List Nd} (hw : w = .neg ∨ bx = true) (oo : okSheet bx old) : ∀ (l : List Nat) (ns : List Nd) (f : Nat → Nat) (done : List Nat), okSheet bx ns → old.length ≤ ns.length → (∀ i ∈ done, f i < ns.length) →
    (∀ i ∈ l, i < old.length) → (∀ (a : List Nat) (i : Nat) (b : List Nat) (n : Nd), l = a ++ i :: b → old[i]? = some n → ∀ p ∈ n.parts, p ∈ done ++ a) → okSheet bx (readF w old l ns f).1
  | [], ns, f, done, ok, _, _, _, _ => ok
  | i :: l, ns, f, done, ok, hl, hd, hi, hp => by
    have hil := hi i List.mem_cons_self
    have hni : old[i]? = some old[i] := List.getElem?_eq_getElem hil
    have hs := stepF_ok (w := w) (ns := ns) (n := old[i]) (i := i) (f := f) hw ok (oo.2 i _ hni) (by omega) (fun p hp' => hd p (by have := hp [] i l _ rfl hni p hp'; simpa using this))
    have hpre := (stepF_pre w ns i old[i] f).length_le
    unfold readF
    rw [hni]
    refine readF_ok hw oo l _ _ (done ++ [i]) hs.1 (by show old.length ≤ (stepF w ns i old[i] f).2.length; omega) (fun j hj => ?_) (fun j hj => hi j (List.mem_cons_of_mem _ hj)) (fun a j b n e hn p hp' => ?_)
    · show (if j = i then (stepF w ns i old[i] f).1 else f j) < (stepF w ns i old[i] f).2.length
      by_cases e : j = i
      · rw [if_pos e]; exact hs.2
      · rw [if_neg e]
        rcases List.mem_append.mp hj with hj | hj
        · have := hd j hj; omega
        · exact absurd (List.mem_singleton.mp hj) e
    · have := hp (i :: a) j b n (by rw [e]; rfl) hn p hp'
      rw [List.append_assoc]
      exact this
theorem readA_ok {w : W3} {bx : Bool} {ns : List Nd} {row : Nat} (hw : w = .neg ∨ bx = true) (ok : okSheet bx ns) : okSheet bx (readA w ns row).1 := by
  refine readF_ok hw ok _ ns _ [] ok (Nat.le_refl _) (fun i hi => nomatch hi) (fun i hi => (below_mem.mp hi).1) (fun a i b n e hn p hp => ?_)
  have hm : i ∈ belowF ns [row] := by rw [e]; simp
  obtain ⟨h1, h2⟩ := below_parts ok hm hn p hp
  have hr : (belowF ns [row])[a.length]? = some i := by rw [e]; simp
  have := below_take hr h1 h2
  rw [e, List.take_append_of_le_length (Nat.le_refl _), List.take_length] at this
  simpa using this
theorem readA_pre (w : W3) (ns : List Nd) (row : Nat) : ns <+: (readA w ns row).1 := readF_pre w ns _ ns _
theorem Dw.read {M : List Addr} {H H' : Hp} {s bk b0 b1 : Addr} {bx : Bool} {ns : List Nd} {w : W3} {row : Nat} (x : Dw M H s bk b0 b1 bx ns) (hw : w = .neg ∨ bx = true) (a : Adv [b0, b1] H H') (B : BkN M H' b0 b1 (readA w ns row).1) : Dw M H' s bk b0 b1 bx (readA w ns row).1 :=
  ⟨x.str.adv a (notin2 x.s0 x.s1) (by simp [x.B.m0, x.B.m1]), a _ _ x.kb x.hbk, x.ms, x.kM, x.s0, x.s1, B, readA_ok hw x.ok⟩
/-- a new book -/
theorem Dw.new {M : List Addr} {H : Hp} {s b0 b1 bk : Addr} {bx : Bool} (hs : StrAt M H s) (ms : s ∈ M) (hal : ∀ b ∈ M, H b ≠ none) (n0 : H b0 = none) (n1 : (upd H b0 (.lst [])) b1 = none) (nk : (upd (upd H b0 (.lst [])) b1 (dxo b1 [])) bk = none) :
    Dw (b1 :: b0 :: M) (upd (upd (upd H b0 (.lst [])) b1 (dxo b1 [])) bk (.lst [.ref b0, .ref b1])) s bk b0 b1 bx [] := by
  have e01 : b0 ≠ b1 := ne_of_none (upd_same (H := H)) n1
  have a0 : Adv [] H (upd H b0 (.lst [])) := Adv.new n0
  have a1 : Adv [] (upd H b0 (.lst [])) (upd (upd H b0 (.lst [])) b1 (dxo b1 [])) := Adv.new n1
  have a2 : Adv [] _ (upd (upd (upd H b0 (.lst [])) b1 (dxo b1 [])) bk (.lst [.ref b0, .ref b1])) := Adv.new nk
  have h0 : (upd (upd H b0 (.lst [])) b1 (dxo b1 [])) b0 = some (.lst []) := a1.same _ _ upd_same
  have h1 : (upd (upd H b0 (.lst [])) b1 (dxo b1 [])) b1 = some (dxo b1 []) := upd_same
  have k0 : bk ≠ b0 := (ne_of_none h0 nk).symm
  have k1 : bk ≠ b1 := (ne_of_none h1 nk).symm
  have nkH : H bk = none := a0.free (by simp) (a1.free (by simp) nk)
  have s0 : s ≠ b0 := fun z => hal s ms (by rw [z]; exact n0)
  have s1 : s ≠ b1 := fun z => hal s ms (by rw [z]; exact a0.free (by simp) n1)
  refine ⟨(((hs.fresh n0).same a0).fresh n1).same (a1.trans a2), upd_same, by simp [ms], fun z => ?_, s0, s1, ⟨⟨[], a2.same _ _ h0, .nil⟩, (Tab.new h1).same a2, by simp, by simp, e01, fun b hb => ?_⟩, ⟨List.nodup_nil, fun i n hi => by simp at hi⟩⟩
  · rcases List.mem_cons.mp z with z | z
    · exact k1 z
    · rcases List.mem_cons.mp z with z | z
      · exact k0 z
      · exact hal bk z nkH
  · rcases List.mem_cons.mp hb with z | hb
    · rw [z, a2.same _ _ h1]; simp
    · rcases List.mem_cons.mp hb with z | hb
      · rw [z, a2.same _ _ h0]; simp
      · cases e : H b with
        | none => exact absurd e (hal b hb)
        | some o => rw [((a0.trans a1).trans a2).same _ _ e]; simp
theorem nd_dep (n : Nd) : dep n.data ≤ 1 := by
  unfold Nd.data
  rw [dep_tup, ks_dep]
  omega
theorem new_at {H : Hp} {p : Addr} {o : HO} (_ : H p = none) : (upd H p o) p = some o := upd_same
theorem sz_non : sz .none = 1 := by unfold sz; rfl
theorem dep_non : dep .none = 0 := by unfold dep; rfl
/-! ### small data -/
def scV : V → Bool
  | .non => true
  | .bl _ => true
  | .int _ => true
  | .str _ => true
  | _ => false
def scD : V → PyData
  | .bl b => .bool b
  | .int i => .int i
  | .str x => .str x
  | _ => .none
theorem sc_is {M : List Addr} {H : Hp} {v : V} (h : scV v = true) : Is M H (scD v) v := by
  cases v with
  | non => exact Is.non
  | bl b => exact Is.bl
  | int i => exact Is.int
  | str x => exact Is.str
  | _ => cases h
theorem sc_sz (v : V) : sz (scD v) = 1 := by cases v <;> (unfold scD sz; rfl)
theorem sc_dep (v : V) : dep (scD v) = 0 := by cases v <;> (unfold scD dep; rfl)
/-- a small datum -/
def SmD (M : List Addr) (H : Hp) (v : V) : Prop := ∃ d, Is M H d v ∧ sz d ≤ 10 ∧ dep d ≤ 3
def SmDs (M : List Addr) (H : Hp) (vs : List V) : Prop := ∃ ds, IsDs M H ds vs ∧ ∀ d ∈ ds, sz d ≤ 10 ∧ dep d ≤ 3
section
variable {M N : List Addr} {H H' : Hp} {v : V} {vs ws : List V} {p : Addr}
theorem SmD.adv (x : SmD M H v) (a : Adv M H H') : SmD M H' v := let ⟨d, h, z⟩ := x; ⟨d, h.adv a, z⟩
theorem SmDs.adv (x : SmDs M H vs) (a : Adv M H H') : SmDs M H' vs := let ⟨d, h, z⟩ := x; ⟨d, h.adv a, z⟩
theorem SmD.sc (h : scV v = true) : SmD M H v := ⟨scD v, sc_is h, by rw [sc_sz]; decide, by rw [sc_dep]; decide⟩
theorem SmDs.nil : SmDs M H [] := ⟨[], .nil, by simp⟩
theorem SmDs.cons (x : SmD M H v) (y : SmDs M H vs) : SmDs M H (v :: vs) := by
  obtain ⟨d, h, z⟩ := x
  obtain ⟨ds, hs, zs⟩ := y
  refine ⟨d :: ds, .cons h hs, fun e he => ?_⟩
  rcases List.mem_cons.mp he with rfl | he
  · exact z
  · exact zs e he
theorem SmDs.nds {ns : List Nd} (h : IsDs M H (ns.map Nd.data) vs) : SmDs M H vs := ⟨_, h, fun d hd => by
  obtain ⟨n, _, rfl⟩ := List.mem_map.mp hd
  have := nd_sz n
  have := nd_dep n
  omega⟩
theorem SmDs.app (x : SmDs M H vs) (y : SmDs M H ws) : SmDs M H (vs ++ ws) := by
  obtain ⟨ds, h, z⟩ := x
  obtain ⟨es, hs, zs⟩ := y
  refine ⟨ds ++ es, h.app hs, fun e he => ?_⟩
  rcases List.mem_append.mp he with he | he
  · exact z e he
  · exact zs e he
theorem SmDs.get (x : SmDs M H vs) {i : Nat} (h : vs[i]? = some v) : SmD M H v := by
  obtain ⟨ds, hs, zs⟩ := x
  obtain ⟨d, hd, hi⟩ := hs.getV h
  exact ⟨d, hi, zs d (List.mem_of_getElem? hd)⟩
theorem SmDs.mem (x : SmDs M H vs) (h : v ∈ vs) : SmD M H v := let ⟨_, hi⟩ := List.getElem?_of_mem h; x.get hi
theorem sc_list : ∀ {xs : List V}, xs.all scV = true → IsDs M H (xs.map scD) xs
  | [], _ => .nil
  | x :: xs, h => by
    rw [List.all_cons, Bool.and_eq_true] at h
    exact .cons (sc_is h.1) (sc_list h.2)
theorem sc_szL : ∀ xs : List V, szL (xs.map scD) = xs.length
  | [] => szL_nil
  | x :: xs => by rw [List.map_cons, szL_cons, sc_szL xs, sc_sz, List.length_cons]; omega
theorem sc_depL : ∀ xs : List V, depL (xs.map scD) = 0
  | [] => depL_nil
  | x :: xs => by rw [List.map_cons, depL_cons, sc_depL xs, sc_dep]; rfl
/-- a new tuple of scalars -/
theorem sm_tup {Q : VK} {xs : List V} (hal : ∀ b ∈ M, H b ≠ none) (hx : xs.all scV = true) (hl : xs.length ≤ 9) (k : ∀ p H', SmD M H' (.ref p) → Adv [] H H' → (∀ b ∈ M, H' b ≠ none) → H' p = some (.tup xs) → Q (.ref p) H') :
    xs.length ≤ sizeLine ∧ ∀ p, H p = none → Q (.ref p) (upd H p (.tup xs)) :=
  ⟨by rw [sizeLine_eq]; omega, fun p np => by
    have a : Adv [] H (upd H p (.tup xs)) := Adv.new np
    exact k p _ ⟨.tuple (xs.map scD), Is.tup upd_same (not_mem_new hal np) (sc_list hx), by rw [sz_tup, sc_szL]; omega, by rw [dep_tup, sc_depL]; omega⟩ a (alloc_adv hal a (by simp)) upd_same⟩
end
/-! ### rows: tuples of keys -/
def kT (ks : List Key) : PyData := .tuple (ks.map keyDt)
def RwD (M : List Addr) (H : Hp) (v : V) : Prop := ∃ ks : List Key, ks.length ≤ 3 ∧ Is M H (kT ks) v
def RwDs (M : List Addr) (H : Hp) (vs : List V) : Prop := ∃ kss : List (List Key), IsDs M H (kss.map kT) vs ∧ ∀ ks ∈ kss, ks.length ≤ 3
section
variable {M N : List Addr} {H H' : Hp} {v : V} {vs ws : List V} {p : Addr}
theorem RwD.adv (x : RwD M H v) (a : Adv M H H') : RwD M H' v := let ⟨d, z, h⟩ := x; ⟨d, z, h.adv a⟩
theorem RwDs.adv (x : RwDs M H vs) (a : Adv M H H') : RwDs M H' vs := let ⟨d, h, z⟩ := x; ⟨d, h.adv a, z⟩
theorem RwDs.fresh (x : RwDs M H vs) (h : H p = none) : RwDs (p :: M) H vs := let ⟨d, y, z⟩ := x; ⟨d, y.fresh h, z⟩
theorem RwDs.less (x : RwDs M H vs) (h : ∀ b ∈ N, b ∈ M) : RwDs N H vs := let ⟨d, y, z⟩ := x; ⟨d, y.less h, z⟩
theorem RwDs.nil : RwDs M H [] := ⟨[], .nil, by simp⟩
theorem RwDs.cons (x : RwD M H v) (y : RwDs M H vs) : RwDs M H (v :: vs) := by
  obtain ⟨d, z, h⟩ := x
  obtain ⟨ds, hs, zs⟩ := y
  refine ⟨d :: ds, .cons h hs, fun e he => ?_⟩
  rcases List.mem_cons.mp he with rfl | he
  · exact z
  · exact zs e he
theorem RwDs.app (x : RwDs M H vs) (y : RwDs M H ws) : RwDs M H (vs ++ ws) := by
  obtain ⟨ds, h, z⟩ := x
  obtain ⟨es, hs, zs⟩ := y
  refine ⟨ds ++ es, by rw [List.map_append]; exact h.app hs, fun e he => ?_⟩
  rcases List.mem_append.mp he with he | he
  · exact z e he
  · exact zs e he
theorem RwDs.get (x : RwDs M H vs) {i : Nat} (h : vs[i]? = some v) : RwD M H v := by
  obtain ⟨ds, hs, zs⟩ := x
  obtain ⟨d, hd, hi⟩ := hs.getV h
  rw [List.getElem?_map, Option.map_eq_some_iff] at hd
  obtain ⟨ks, hk, rfl⟩ := hd
  exact ⟨ks, zs ks (List.mem_of_getElem? hk), hi⟩
theorem RwD.sm (x : RwD M H v) : SmD M H v := by
  obtain ⟨ks, z, h⟩ := x
  exact ⟨_, h, by unfold kT; rw [sz_tup, ks_sz]; omega, by unfold kT; rw [dep_tup, ks_dep]; omega⟩
theorem RwD.at_ (x : RwD M H v) : ∃ (a : Addr) (ks : List Key), v = .ref a ∧ Tp M H a (ks.map kV) ∧ ks.length ≤ 3 := by
  obtain ⟨ks, z, h⟩ := x
  obtain ⟨a, vs, rfl, ha, hs⟩ := h.tupE
  rw [ks_of _ _ hs] at ha
  exact ⟨a, ks, rfl, ha, z⟩
theorem RwDs.sm (x : RwDs M H vs) : SmDs M H vs := by
  obtain ⟨kss, h, z⟩ := x
  refine ⟨_, h, fun d hd => ?_⟩
  obtain ⟨ks, hk, rfl⟩ := List.mem_map.mp hd
  have := z ks hk
  unfold kT
  rw [sz_tup, ks_sz, dep_tup, ks_dep]
  omega
theorem RwDs.nds {ns : List Nd} (h : IsDs M H (ns.map Nd.data) vs) : RwDs M H vs := ⟨ns.map Nd.keys, by rw [List.map_map]; exact h, fun ks hk => by
  obtain ⟨n, _, rfl⟩ := List.mem_map.mp hk
  cases n <;> simp [Nd.keys]⟩
theorem rw_new {ks : List Key} (hal : ∀ b ∈ M, H b ≠ none) (np : H p = none) (hl : ks.length ≤ 3) : RwD M (upd H p (.tup (ks.map kV))) (.ref p) :=
  ⟨ks, hl, nd_data upd_same (not_mem_new hal np)⟩
theorem SmDs.take (x : SmDs M H vs) (i : Nat) : SmDs M H (vs.take i) := by
  obtain ⟨ds, h, z⟩ := x
  refine ⟨ds.take i, ?_, fun d hd => z d (List.mem_of_mem_take hd)⟩
  refine IsDs.of_get (by rw [List.length_take, List.length_take, h.len]) fun j d v h1 h2 => ?_
  rw [List.getElem?_take] at h1 h2
  split at h1
  · rename_i hj
    rw [if_pos hj] at h2
    obtain ⟨v', e, hv⟩ := h.get h1
    rw [h2] at e
    cases e
    exact hv
  · cases h1
theorem SmDs.drop (x : SmDs M H vs) (i : Nat) : SmDs M H (vs.drop i) := by
  obtain ⟨ds, h, z⟩ := x
  exact ⟨ds.drop i, h.drop i, fun d hd => z d (List.mem_of_mem_drop hd)⟩
theorem SmDs.cut (x : SmDs M H vs) (lo hi : Option Int) : SmDs M H (cutV vs lo hi) := by
  unfold cutV
  exact (x.drop _).take _
theorem cut_len (vs : List V) (lo hi : Option Int) : (cutV vs lo hi).length ≤ vs.length := by
  unfold cutV
  rw [List.length_take, List.length_drop]
  omega
theorem SmDs.fresh (x : SmDs M H vs) (h : H p = none) : SmDs (p :: M) H vs := let ⟨d, y, z⟩ := x; ⟨d, y.fresh h, z⟩
theorem SmDs.of_sc {xs : List V} (h : xs.all scV = true) : SmDs M H xs := by
  refine ⟨xs.map scD, sc_list h, fun d hd => ?_⟩
  obtain ⟨x, _, rfl⟩ := List.mem_map.mp hd
  rw [sc_sz, sc_dep]
  omega
theorem sm_lst {l : Addr} {ks : List Key} (h : H l = some (.lst (ks.map kV))) (hl : l ∉ M) (hz : ks.length ≤ 3) : SmD M H (.ref l) :=
  ⟨.list (ks.map keyDt), Is.lst h hl (ks_data ks), by rw [sz_lst, ks_sz]; omega, by rw [dep_lst, ks_dep]; omega⟩
end
theorem depL_of {k : Nat} : ∀ {ds : List PyData}, (∀ d ∈ ds, dep d ≤ k) → depL ds ≤ k := fun h => depL_le h
theorem SmDs.lst {M : List Addr} {H : Hp} {vs : List V} {l : Addr} (x : SmDs M H vs) (h : H l = some (.lst vs)) (hl : l ∉ M) (hz : vs.length ≤ 90000) : ∃ d, Is M H d (.ref l) ∧ sz d ≤ 1000000 ∧ dep d ≤ 4 := by
  obtain ⟨ds, hs, zs⟩ := x
  have := hs.len
  have h1 := szL_le (k := 10) (fun d hd => (zs d hd).1)
  have h2 := depL_le (k := 3) (fun d hd => (zs d hd).2)
  exact ⟨.list ds, Is.lst h hl hs, by rw [sz_lst]; omega, by rw [dep_lst]; omega⟩
end LL

set_option Elab.async false
set_option linter.all false
set_option maxRecDepth 100000
set_option maxHeartbeats 4000000
/-! set(list of ints), sorted of a set of ints, of any size below 4,095 -/
namespace LL
open PySem PySem.Spec PyProof.Rows L2
section
variable {P : Program} {w : World} {A : Around} {E : Value → Shared → Prop} {s : Shared}
set_option maxHeartbeats 3200000 in
theorem call_set_listI {l : Addr} {items : Array Value} (ns : List Int) {Q : Value → Shared → Prop} (hh : A.handled = none) (hl : s.heap.IsList l items) (hit : IntsAre items.toList ns) (hb : ns.length + 1 < scanBound)
    (h : ∀ (h' : Heap) (tk c : Nat), SetR w h' s.heap.objs.size (fun j => decide (j ∈ ns)) c → c ≤ ns.length → (∀ b o, s.heap.get? b = some o → h'.get? b = some o) → Q (.ref s.heap.objs.size) { s with heap := h', toks := tk }) :
    wpAny (model P w) A (call (.type "set") [.ref l]) Q E s := by
  have hisz : items.size = ns.length := by
    have q := IntsAre.length hit
    rw [Array.length_toList] at q
    exact q
  obtain ⟨c, tl, hmro⟩ := F.called_set.mro
  have hmade := F.called_set.made
  have hsub := F.called_set.sub
  refine wpAny_call (codeAny_of_tree ?_)
  show wpAny _ _ (callAny (.type "set") _) _ _ _
  refine wpAny_pure ⟨Code.quiet_builtin _ (by decide +kernel), codeAny_builtin F.entry_type_call ?_⟩
  rw [Around.under_plain (weight_type_call_type "set" [.ref l] []) rfl]
  have h1 := F.called_set.notType
  have h2 := F.called_set.canCreate
  have hct := F.typeCall_set_1 (.ref l)
  repeat (any_goals (first | assumption | wp_step))

  refine codeAny_mono (code_set_led1 (.ref l) (E := E) (Q₁ := fun obj s₁ => obj = .ref s.heap.objs.size ∧ s₁ = { s with heap := s.heap.push { cls := .type "set", dict := none, data := .set #[] 0 (.fresh 0 0 (!w.params.followText "set-order")) } }) ⟨rfl, rfl⟩) fun r s₁ hr => ?_
  cases r with
  | error e => exact hr
  | ok fl =>
    cases fl with
    | ret obj =>
      obtain ⟨rfl, rfl⟩ := hr
      have hS : (s.heap.push { cls := .type "set", dict := none, data := .set #[] 0 (.fresh 0 0 (!w.params.followText "set-order")) }).get? s.heap.objs.size = some { cls := .type "set", dict := none, data := .set #[] 0 (.fresh 0 0 (!w.params.followText "set-order")) } := Heap.get?_push_size _ rfl
      have hT : Shared.TypeIs { s with heap := s.heap.push { cls := .type "set", dict := none, data := .set #[] 0 (.fresh 0 0 (!w.params.followText "set-order")) } } (.ref s.heap.objs.size) "set" := ⟨_, hS, rfl⟩
      have hli := F.called_set.init.lookup
      have hbi := F.called_set.init.bind (.ref s.heap.objs.size)
      repeat (any_goals (first | assumption | wp_step))

      refine codeAny_mono (codeAny_call_builtin (R := wants (fun r s₂ => r = .none ∧ ∃ h' tk c, s₂ = { s with heap := h', toks := tk } ∧ SetR w h' s.heap.objs.size (fun j => decide (j ∈ ns)) c ∧ c ≤ ns.length ∧
          (∀ b o, s.heap.get? b = some o → h'.get? b = some o)) E) F.called_set.init.plain F.entry_set_init (check_set_init_1 hT ?_)) fun r₂ s₂ hr₂ => ?_
      · obtain ⟨ol, hol, hcl, nl, hdl⟩ := hl
        obtain ⟨ocls, odict, odata, oslots⟩ := ol
        simp only at hcl hdl
        subst hcl; subst hdl
        have hol' : (s.heap.push { cls := .type "set", dict := none, data := .set #[] 0 (.fresh 0 0 (!w.params.followText "set-order")) }).get? l = some { cls := .type "list", dict := odict, data := .seq items nl, slots := oslots } := Heap.get?_push_of_some _ hol
        have hsls := F.sub_list_set
        have hslf := F.sub_list_frozenset
        have hne : (Value.type "list" == Value.type "dict") = false := by decide
        have hl1 : (s.heap.push { cls := .type "set", dict := none, data := .set #[] 0 (.fresh 0 0 (!w.params.followText "set-order")) }).IsList l items := ⟨_, hol', rfl, nl, rfl⟩
        unfold Builtin.«set.__init__» noKeywords Builtin.Frozenset.updateFrom
        generalize hPI : pyIter = PI
        wp_walk
        subst hPI

        refine wpAny_pyIter_list hl1 ?_
        refine wpAny_bind (wpAny_runValue ?_)
        have hlS : l < s.heap.objs.size := Heap.lt_size hol
        have hh3 : A.in1.in1.in1.handled = none := by simp [hh]
        have hneI : l ≠ (s.heap.push { cls := .type "set", dict := none, data := .set #[] 0 (.fresh 0 0 (!w.params.followText "set-order")) }).objs.size := by
          rw [Heap.size_push]; exact Nat.ne_of_lt (Nat.lt_succ_of_lt hlS)
        have hSf : s.heap.objs.size ∉ [(s.heap.push { cls := .type "set", dict := none, data := .set #[] 0 (.fresh 0 0 (!w.params.followText "set-order")) }).objs.size, l] := by
          rw [Heap.size_push]; simp only [List.mem_cons, List.mem_singleton, List.not_mem_nil, or_false, not_or]
          exact ⟨Nat.ne_of_lt (Nat.lt_succ_self _), Nat.ne_of_gt hlS⟩
        have hval : ∀ (i : Nat) (v : Value), items[i]? = some v → ∃ k t, ns[i]? = some k ∧ v = .int k t := fun i v hv => by
          have hi : i < ns.length := by rw [← hisz]; exact (Array.getElem?_eq_some_iff.mp hv).1
          obtain ⟨t, e⟩ := PyProof.Rows.IntsAre.int_at hit i v (by rw [Array.getElem?_toList]; exact hv)
          refine ⟨ns[i], t, List.getElem?_eq_getElem hi, ?_⟩
          rw [e, List.getD_eq_getElem?_getD, List.getElem?_eq_getElem hi] <;> rfl
        refine set_update_ints ((Walks.list hh3 _ l hneI items).toS) s.heap.objs.size
          hSf ns hisz hb hval (items.size - 0) 0 _ (by omega) (Nat.zero_le _)
          ⟨⟨_, Heap.get?_push_size _ rfl, rfl, rfl⟩, (hl1.push _)⟩ ?hS0 ?hR
        case hS0 =>
          have hget : ((s.heap.push { cls := .type "set", dict := none, data := .set #[] 0 (.fresh 0 0 (!w.params.followText "set-order")) }).push { cls := .type "list_iterator", data := .fields #[.ref l, .int 0 0] }).get? s.heap.objs.size
              = some { cls := .type "set", dict := none, data := .set #[] 0 (.fresh 0 0 (!w.params.followText "set-order")) } := Heap.get?_push_of_some _ hS
          exact ⟨0, Nat.le_refl 0, setR_new_at hget⟩
        case hR =>
          intro s' c' hm hc' hS'
          obtain ⟨h', g2, d', tk', os'⟩ := s'
          have eg : g2 = s.gens := hm.gens
          have ed : d' = s.drawn := hm.drawn
          have eo : os' = s.os := hm.os
          subst eg; subst ed; subst eo
          show wpAny _ _ _ _ _ _
          refine wpAny_pure ?_
          show wpAny _ _ (ret Value.none) _ _ _
          rw [hisz] at hc'
          refine wpAny_pure ⟨rfl, h', tk', c', rfl, hS', hc', fun b o e => ?_⟩
          have hb0 : b < s.heap.objs.size := Heap.lt_size e
          have hb1 : b ≠ s.heap.objs.size := Nat.ne_of_lt hb0
          have hb2 : b ≠ (s.heap.push { cls := .type "set", dict := none, data := .set #[] 0 (.fresh 0 0 (!w.params.followText "set-order")) }).objs.size := by
            rw [Heap.size_push]; exact Nat.ne_of_lt (Nat.lt_succ_of_lt hb0)
          exact hm.heap b o (by simp only [List.mem_cons, List.mem_singleton, List.not_mem_nil, or_false, not_or]; exact ⟨hb1, hb2⟩) (Heap.get?_push_of_some _ (Heap.get?_push_of_some _ e))

      · cases r₂ with
        | error e => exact hr₂
        | ok fl₂ =>
          cases fl₂ with
          | ret r =>
            obtain ⟨rfl, h', tk, c', rfl, hS', hc', hk'⟩ := hr₂
            repeat (any_goals (first | assumption | wp_step))
            exact h _ _ _ hS' hc' hk'
          | _ => exact hr₂.elim
    | _ => exact hr.elim
theorem sorted_setB {a : Addr} {S : Int → Bool} {n : Nat} {Q : Value → Shared → Prop} (R : SetR w s.heap a S n) (hh : A.handled = none)
    (hQ : ∀ s' p (out : Array Value) (c : Nat) (ns : List Int), (∀ b o, s.heap.get? b = some o → s'.heap.get? b = some o) → s'.gens = s.gens → s'.os = s.os → s.heap.objs.size ≤ p →
      s'.heap.get? p = some (seqObj "list" out c) → IntsAre out.toList ns → ns.Pairwise (· < ·) → (∀ k, k ∈ ns ↔ S k = true) → ns.length = n → n < scanBound → Q (.ref p) s') :
    wpAny (model P w) A (call (.builtin "sorted") [.ref a]) Q E s := by
  obtain ⟨o, es, ep, t, ho, hex, hd, g, nd, hm, hb, hf, hn, hr, hl⟩ := R
  refine Calls.call_function_entry kind_sorted plain_sorted entry_sorted (args_sorted1 _) ?_
  unfold Builtin.«sorted»
  refine wpAny_bind (m := checkCount "sorted" 1 1 _) (wpAny_pure ?_)
  refine wpAny_bind (collect_set (A := A.in1) hh ⟨o, ho, hex.1, hd⟩ hf hb hr hl fun s1 vs k1 hz g1 o1 pm => ?_)
  have hvl : vs.length = n := by rw [pm.length_eq, List.length_map, Array.length_toList]; exact hn
  have hI : IntsAre vs (vs.map Builtin.Re.reRawOf) := ints_of vs fun v hv => by
    obtain ⟨e, he, q⟩ := List.mem_map.mp (pm.mem_iff.mp hv)
    obtain ⟨k, tk, h1, _⟩ := g e he
    exact ⟨k, tk, by rw [← q]; exact h1⟩
  have pk : (vs.map Builtin.Re.reRawOf).Perm (es.toList.map keyOf) := by
    have q := pm.map Builtin.Re.reRawOf
    rw [List.map_map] at q
    exact q
  have hnb : n < scanBound := by rw [← hn]; exact hb
  have hvz : vs.length ≤ sizeLine := by rw [hvl, sizeLine_eq]; unfold scanBound at hnb; omega
  refine wpAny_bind (wpAny_newList ?_ hvz)
  have hoL : (s1.heap.push (seqObj "list" vs.toArray 0)).get? s1.heap.objs.size = some (seqObj "list" vs.toArray 0) := Heap.get?_push_size _ rfl
  refine wpAny_bind (wpAny_holding (wpAny_call_entry slot_list_sort ⟨_, hoL, rfl⟩ entry_list_sort (SrtO.list_sort_ord SrtO.swo_int hoL hvz (fun h2 => SrtO.ints_sortable hI h2) fun out h1 h2 => ⟨_, rfl, ?_⟩) (args_list_sort _)))
  obtain ⟨a1, a2, a3⟩ := SrtO.ints_out hI h1 h2
  obtain ⟨c, hc⟩ := sortedHeap_at (vs := vs) (out := out.toArray) hoL
  have pn : (out.map SrtO.iv).Perm (es.toList.map keyOf) := a2.trans pk
  refine wpAny_pure ⟨_, rfl, hQ _ s1.heap.objs.size out.toArray c _ (fun b u e => ?_) g1 o1 hz hc (by simpa using a1) (lt_of_le_nodup _ a3 (pn.nodup_iff.mpr nd)) (fun k => by rw [pn.mem_iff, ← hm k]) ?_ hnb⟩
  · have q := k1 b u e
    have hlt := Heap.lt_size q
    show (sortedHeap (s1.heap.push (seqObj "list" vs.toArray 0)) s1.heap.objs.size vs out.toArray).get? b = some u
    rw [sortedHeap_old (Nat.ne_of_lt hlt) (by rw [size_push']; exact Nat.lt_succ_of_lt hlt)]
    exact Heap.get?_push_of_some _ q
  · rw [pn.length_eq, List.length_map, Array.length_toList]; exact hn
end
section
variable {X : Cx}
/-- set(xs), xs a list of ints -/
def rSetL (K : PySem.W.Frag) (w : World) : List V → Hp → VK → Prop := fun vs H Q => ∃ (a : Addr) (ns : List Int), vs = [V.ref a] ∧ (SqL K H a (ns.map V.int) ∨ SqT K H a (ns.map V.int)) ∧ ns.length ≤ 4000 ∧
  ∀ p n, n ≤ ns.length → H p = none → Q (.ref p) (upd H p (SetO w p (fun j => decide (j ∈ ns)) n))
theorem cr_setL (hc : X.calm = true) : CallR X (.type "set") (rSetL X.K X.w) := by
  intro pins s σ H vs us Q I r h
  obtain ⟨a, ns, rfl, hs, hz, q⟩ := h
  rw [Vals.ref1 r]
  rcases hs with hs | hs
  · obtain ⟨its, rv, hl, _⟩ := I.list hs
    refine call_set_listI ns (I.ok.hd hc) hl.isList (by simpa using rv.ints) (by unfold scanBound; omega) fun h' tk c R hc' k => ?_
    exact ⟨.ref _, upd H s.heap.objs.size (SetO X.w s.heap.objs.size (fun j => decide (j ∈ ns)) c), I.laid (t' := tk) k (Nat.le_refl _) (setO_new R), rfl, q _ _ hc' (I.hok.fresh (Nat.le_refl _))⟩
  · obtain ⟨its, rv, hl, _⟩ := I.tuple hs
    refine call_set_tupI ns (I.ok.hd hc) hl (by simpa using rv.ints) (by unfold scanBound; omega) fun h' tk c R hc' k => ?_
    exact ⟨.ref _, upd H s.heap.objs.size (SetO X.w s.heap.objs.size (fun j => decide (j ∈ ns)) c), I.laid (t' := tk) k (Nat.le_refl _) (setO_new R), rfl, q _ _ hc' (I.hok.fresh (Nat.le_refl _))⟩
/-- sorted(a set of ints) -/
def rSortS (w : World) : List V → Hp → VK → Prop := fun vs H Q => ∃ (a : Addr) (S : Int → Bool) (n : Nat), vs = [V.ref a] ∧ H a = some (SetO w a S n) ∧
  ∀ (ns : List Int) (p : Addr), ns.Pairwise (· < ·) → (∀ k : Int, k ∈ ns ↔ S k = true) → ns.length = n → H p = none → Q (.ref p) (upd H p (.lst (ns.map V.int)))
theorem cr_sortS (hc : X.calm = true) : CallR X (.builtin "sorted") (rSortS X.w) := by
  intro pins s σ H vs us Q I r h
  obtain ⟨a, S, n, rfl, ha, q⟩ := h
  have R := setO_get I ha
  rw [Vals.ref1 r]
  refine sorted_setB R (I.ok.hd hc) fun s' p out c ns k g o hp hg hi hs hm hl hb => ?_
  have hlen : (ns.map V.int).length ≤ sizeLine := by rw [List.length_map, hl, sizeLine_eq]; unfold scanBound at hb; omega
  have hn : H p = none := I.hok.fresh hp
  have J : Inv X pins σ (upd H p (.lst (ns.map V.int))) { s with heap := s'.heap, gens := s'.gens, drawn := s'.drawn, toks := s'.toks } :=
    I.call (ch := []) (Un.laid k hp hn) (I.hok.laid k hp ⟨hlen, out.toList, c, vals_of_ints hi, hg⟩) (by rw [g]; exact I.bare) (fun _ z => nomatch z)
  have e : s' = { s with heap := s'.heap, gens := s'.gens, drawn := s'.drawn, toks := s'.toks } := by
    cases s'
    cases s
    cases o
    rfl
  rw [e]
  exact ⟨.ref p, _, J, rfl, q ns p hs hm hl hn⟩
end
/-! ### the sorted list of the members -/
def insI (x : Int) : List Int → List Int
  | [] => [x]
  | y :: l => if x < y then x :: y :: l else if x = y then y :: l else y :: insI x l
/-- the ascending list of the members of xs -/
def srtU : List Int → List Int
  | [] => []
  | x :: l => insI x (srtU l)
theorem insI_mem {x k : Int} : ∀ {l : List Int}, k ∈ insI x l ↔ k = x ∨ k ∈ l
  | [] => by simp [insI]
  | y :: l => by
    unfold insI
    split
    · simp
    · split
      · rename_i h; subst h; simp
      · simp only [List.mem_cons, insI_mem (l := l)]
        constructor
        · rintro (h | h | h) <;> simp [h]
        · rintro (h | h | h) <;> simp [h]
theorem insI_asc {x : Int} : ∀ {l : List Int}, l.Pairwise (· < ·) → (insI x l).Pairwise (· < ·)
  | [], _ => by simp [insI]
  | y :: l, h => by
    obtain ⟨h1, h2⟩ := List.pairwise_cons.mp h
    unfold insI
    split
    · rename_i c
      exact List.pairwise_cons.mpr ⟨fun z hz => by
        rcases List.mem_cons.mp hz with e | e
        · rw [e]; exact c
        · have := h1 z e; omega, h⟩
    · split
      · exact h
      · refine List.pairwise_cons.mpr ⟨fun z hz => ?_, insI_asc h2⟩
        rcases insI_mem.mp hz with e | e
        · subst e; omega
        · exact h1 z e
theorem srtU_mem {k : Int} : ∀ {l : List Int}, k ∈ srtU l ↔ k ∈ l
  | [] => by simp [srtU]
  | y :: l => by
    unfold srtU
    rw [insI_mem, srtU_mem (l := l)]
    simp
theorem srtU_asc : ∀ l : List Int, (srtU l).Pairwise (· < ·)
  | [] => List.Pairwise.nil
  | y :: l => by
    unfold srtU
    exact insI_asc (srtU_asc l)
theorem asc_ext : ∀ {l m : List Int}, l.Pairwise (· < ·) → m.Pairwise (· < ·) → (∀ k, k ∈ l ↔ k ∈ m) → l = m
  | [], [], _, _, _ => rfl
  | [], y :: m, _, _, e => absurd ((e y).mpr List.mem_cons_self) (by simp)
  | x :: l, [], _, _, e => absurd ((e x).mp List.mem_cons_self) (by simp)
  | x :: l, y :: m, h1, h2, e => by
    obtain ⟨a1, a2⟩ := List.pairwise_cons.mp h1
    obtain ⟨b1, b2⟩ := List.pairwise_cons.mp h2
    have exy : x = y := by
      rcases List.mem_cons.mp ((e x).mp List.mem_cons_self) with c | c
      · exact c
      · rcases List.mem_cons.mp ((e y).mpr List.mem_cons_self) with d | d
        · exact d.symm
        · have := b1 x c; have := a1 y d; omega
    subst exy
    rw [asc_ext a2 b2 fun k => ?_]
    constructor
    · intro hk
      rcases List.mem_cons.mp ((e k).mp (List.mem_cons_of_mem _ hk)) with c | c
      · have := a1 k hk; omega
      · exact c
    · intro hk
      rcases List.mem_cons.mp ((e k).mpr (List.mem_cons_of_mem _ hk)) with c | c
      · have := b1 k hk; omega
      · exact c
theorem srtU_len : ∀ l : List Int, (srtU l).length ≤ l.length
  | [] => Nat.le_refl _
  | y :: l => by
    have ins : ∀ (x : Int) (m : List Int), (insI x m).length ≤ m.length + 1 := by
      intro x m
      induction m with
      | nil => simp [insI]
      | cons z m ih =>
        unfold insI
        split
        · simp
        · split
          · simp
          · simp only [List.length_cons]; omega
    unfold srtU
    have := ins y (srtU l)
    have := srtU_len l
    simp only [List.length_cons]
    omega
theorem srtU_of {l ns : List Int} (h : ns.Pairwise (· < ·)) (e : ∀ k, k ∈ ns ↔ decide (k ∈ l) = true) : ns = srtU l :=
  asc_ext h (srtU_asc l) fun k => by rw [e k, srtU_mem]; simp
end LL

set_option Elab.async false
set_option linter.all false
set_option maxRecDepth 100000
set_option maxHeartbeats 400000
/-! LClm: claims and their readings, in plain words -/
namespace LL
open PySem PySem.Spec PyProof.Rows L2
/-! ### rows -/
variable [KW]
def nD (rows : List Nat) : List PyData := rows.map fun r => .int (r : Nat)
def intD : PyData → Int
  | .int i => i
  | _ => 0
def risB (l : List Int) : Bool := (List.range (l.length - 1)).all fun i => decide (l.getD i 0 < l.getD (i + 1) 0)
/-- a tuple of rising rows below n -/
def rowsB (n : Int) : PyData → Bool
  | .tuple ds => ds.all (isNum 0 (n - 1)) && risB (ds.map intD)
  | _ => false
theorem nD_int (rows : List Nat) : (nD rows).map intD = rows.map fun r => ((r : Nat) : Int) := by
  unfold nD
  rw [List.map_map]
  rfl
theorem all_nat {n : Int} : ∀ {ds : List PyData}, ds.all (isNum 0 (n - 1)) = true → ∃ rows : List Nat, ds = nD rows ∧ ∀ r ∈ rows, (r : Int) < n
  | [], _ => ⟨[], rfl, by simp⟩
  | d :: ds, h => by
    rw [List.all_cons, Bool.and_eq_true] at h
    obtain ⟨i, rfl, h1, h2⟩ := num_nat h.1 (by decide)
    obtain ⟨rows, rfl, h3⟩ := all_nat h.2
    refine ⟨i :: rows, rfl, fun r hr => ?_⟩
    rcases List.mem_cons.mp hr with e | e
    · subst e; omega
    · exact h3 r e
theorem ris_pair : ∀ {l : List Int}, risB l = true → l.Pairwise (· < ·)
  | [], _ => List.Pairwise.nil
  | [x], _ => by simp
  | x :: y :: l, h => by
    have h' := List.all_eq_true.mp h
    have h0 : x < y := by
      have := h' 0 (List.mem_range.mpr (by simp))
      simpa using this
    have ht : risB (y :: l) = true := List.all_eq_true.mpr fun i hi => by
      have hi := List.mem_range.mp hi
      have := h' (i + 1) (List.mem_range.mpr (by simp only [List.length_cons] at *; omega))
      simpa using this
    have ih := ris_pair ht
    refine List.pairwise_cons.mpr ⟨fun z hz => ?_, ih⟩
    rcases List.mem_cons.mp hz with e | e
    · rw [e]; exact h0
    · have := (List.pairwise_cons.mp ih).1 z e
      omega
theorem rows_nat {n : Int} {d : PyData} (h : rowsB n d = true) : ∃ rows : List Nat, d = .tuple (nD rows) ∧ (∀ r ∈ rows, (r : Int) < n) ∧ (rows.map fun r => ((r : Nat) : Int)).Pairwise (· < ·) := by
  cases d with
  | tuple ds =>
    have h : (ds.all (isNum 0 (n - 1)) && risB (ds.map intD)) = true := h
    rw [Bool.and_eq_true] at h
    obtain ⟨rows, rfl, h2⟩ := all_nat h.1
    refine ⟨rows, rfl, h2, ?_⟩
    rw [← nD_int]
    exact ris_pair h.2
  | _ => cases h
def nVl (rows : List Nat) : List V := rows.map fun r => .int (r : Nat)
theorem nD_is {M : List Addr} {H : Hp} : ∀ rows : List Nat, IsDs M H (nD rows) (nVl rows)
  | [] => .nil
  | r :: rows => .cons Is.int (nD_is rows)
theorem nD_of {M : List Addr} {H : Hp} : ∀ {rows : List Nat} {vs : List V}, IsDs M H (nD rows) vs → vs = nVl rows
  | [], vs, h => by
    unfold nD at h
    rw [List.map_nil] at h
    unfold IsDs at h
    exact h
  | r :: rows, vs, h => by
    unfold nD at h
    rw [List.map_cons] at h
    unfold IsDs at h
    obtain ⟨v, ws, rfl, h1, h2⟩ := h
    cases h1.intE
    rw [nD_of (rows := rows) h2]
    rfl
theorem nD_sz (rows : List Nat) : szL (nD rows) = rows.length := by
  unfold nD
  induction rows with
  | nil => exact szL_nil
  | cons r rows ih => rw [List.map_cons, szL_cons, ih, List.length_cons, sz1_int]; omega
theorem nD_dep (rows : List Nat) : depL (nD rows) = 0 := by
  unfold nD
  induction rows with
  | nil => exact depL_nil
  | cons r rows ih => rw [List.map_cons, depL_cons, ih, dep1_int]; rfl
theorem cast_inj : ∀ {a b : List Nat}, (a.map fun r => ((r : Nat) : Int)) = (b.map fun r => ((r : Nat) : Int)) → a = b
  | [], [], _ => rfl
  | [], y :: b, h => by simp at h
  | x :: a, [], h => by simp at h
  | x :: a, y :: b, h => by
    rw [List.map_cons, List.map_cons] at h
    injection h with h1 h2
    rw [Int.ofNat.inj h1, cast_inj h2]
/-! ### ascending -/
def srtN (rows : List Nat) : List Nat := (srtU (rows.map fun r => ((r : Nat) : Int))).map Int.toNat
theorem srtN_cast (rows : List Nat) : (srtN rows).map (fun r => ((r : Nat) : Int)) = srtU (rows.map fun r => ((r : Nat) : Int)) := by
  unfold srtN
  rw [List.map_map]
  have : ∀ x ∈ srtU (rows.map fun r => ((r : Nat) : Int)), ((fun r => ((r : Nat) : Int)) ∘ Int.toNat) x = x := fun x hx => by
    obtain ⟨r, _, rfl⟩ := List.mem_map.mp (srtU_mem.mp hx)
    simp
  exact (List.map_congr_left this).trans (List.map_id _)
theorem srtN_mem {rows : List Nat} {k : Nat} : k ∈ srtN rows ↔ k ∈ rows := by
  have e := srtN_cast rows
  have cm : ∀ l : List Nat, k ∈ l ↔ ((k : Nat) : Int) ∈ l.map (fun r => ((r : Nat) : Int)) := fun l => by
    constructor
    · exact fun h => List.mem_map.mpr ⟨k, h, rfl⟩
    · intro h
      obtain ⟨a, ha, e⟩ := List.mem_map.mp h
      rw [← Int.ofNat.inj e]
      exact ha
  rw [cm (srtN rows), e, srtU_mem, ← cm]
theorem srtN_len (rows : List Nat) : (srtN rows).length ≤ rows.length := by
  unfold srtN
  rw [List.length_map]
  have := srtU_len (rows.map fun r => ((r : Nat) : Int))
  rw [List.length_map] at this
  exact this
theorem srtN_id {rows : List Nat} (h : (rows.map fun r => ((r : Nat) : Int)).Pairwise (· < ·)) : srtN rows = rows := by
  have e := srtN_cast rows
  rw [← srtU_of h (fun k => by simp)] at e
  exact cast_inj e
theorem nV_srt (rows : List Nat) : (srtU (rows.map fun r => ((r : Nat) : Int))).map V.int = nVl (srtN rows) := by
  rw [← srtN_cast]
  unfold nVl
  rw [List.map_map]
  rfl
/-! ### the readings -/
inductive R7
  | neg | den | box | dou | mk | ms | mg
  deriving DecidableEq
def R7.str : R7 → Str
  | .neg => "negative" | .den => "denied" | .box => "boxed" | .dou => "doubled" | .mk => "modal k" | .ms => "modal s4" | .mg => "modal gl"
def r7Of (x : Str) : Option R7 :=
  if x = "negative" then some .neg else if x = "denied" then some .den else if x = "boxed" then some .box else if x = "doubled" then some .dou else if x = "modal k" then some .mk else if x = "modal s4" then some .ms else if x = "modal gl" then some .mg else none
def isR7 : PyData → Option R7
  | .str x => r7Of x
  | _ => none
theorem r7_str {x : Str} {r : R7} (h : r7Of x = some r) : x = r.str := by
  unfold r7Of at h
  repeat' split at h
  all_goals first | (cases h; assumption) | cases h
theorem r7_of (r : R7) : r7Of r.str = some r := by cases r <;> decide +kernel
def R7.lo : R7 → Str
  | .box => "intuit" | .dou => "intuit" | _ => "classical"
def R7.hi : R7 → Str
  | .neg => "intuit" | .den => "intuit" | .box => "s4" | .dou => "gl" | .mk => "k" | .ms => "s4" | .mg => "gl"
/-- the rows denied, one after the other -/
def denyL : List Nd → List Nat → List Nat × List Nd
  | ns, [] => ([], ns)
  | ns, r :: rs => ((denyF ns r).1 :: (denyL (denyF ns r).2 rs).1, (denyL (denyF ns r).2 rs).2)
theorem denyL_snoc : ∀ (l : List Nat) (ns : List Nd) (r : Nat), denyL ns (l ++ [r]) = ((denyL ns l).1 ++ [(denyF (denyL ns l).2 r).1], (denyF (denyL ns l).2 r).2)
  | [], ns, r => rfl
  | x :: l, ns, r => by
    rw [List.cons_append]
    unfold denyL
    rw [denyL_snoc l]
    rfl
theorem denyL_len (l : List Nat) : ∀ ns : List Nd, (denyL ns l).2.length ≤ ns.length + 2 * l.length := by
  induction l with
  | nil => intro ns; exact Nat.le_add_right _ _
  | cons r l ih =>
    intro ns
    have := ih (denyF ns r).2
    have := denyF_len ns r
    show (denyL (denyF ns r).2 l).2.length ≤ _
    rw [List.length_cons]
    omega
theorem denyL_len1 (l : List Nat) : ∀ ns : List Nd, (denyL ns l).1.length = l.length := by
  induction l with
  | nil => intro ns; rfl
  | cons r l ih =>
    intro ns
    show (denyL (denyF ns r).2 l).1.length + 1 = l.length + 1
    rw [ih]
theorem denyL_pre (l : List Nat) : ∀ ns : List Nd, ns <+: (denyL ns l).2 := by
  induction l with
  | nil => intro ns; exact List.prefix_rfl
  | cons r l ih => intro ns; exact (denyF_pre ns r).trans (ih _)
theorem denyL_ok {bx : Bool} (l : List Nat) : ∀ ns : List Nd, okSheet bx ns → (∀ r ∈ l, r < ns.length) → okSheet bx (denyL ns l).2 ∧ ∀ r ∈ (denyL ns l).1, r < (denyL ns l).2.length := by
  induction l with
  | nil => intro ns ok _; exact ⟨ok, fun r hr => nomatch hr⟩
  | cons r l ih =>
    intro ns ok h
    obtain ⟨o1, l1⟩ := denyF_ok ok (h r List.mem_cons_self)
    have hp := (denyF_pre ns r).length_le
    obtain ⟨o2, l2⟩ := ih (denyF ns r).2 o1 (fun q hq => by have := h q (List.mem_cons_of_mem _ hq); omega)
    refine ⟨o2, fun q hq => ?_⟩
    rcases List.mem_cons.mp hq with e | e
    · subst e
      have := (denyL_pre l (denyF ns r).2).length_le
      show (denyF ns r).1 < (denyL (denyF ns r).2 l).2.length
      omega
    · exact l2 q e
/-- rows grown by a reading -/
def growF (w : W3) (ns : List Nd) (rows : List Nat) : List Nd × (Nat → Nat) := readF w ns (belowF ns rows) ns (fun _ => 0)
def newC (r : R7) (ns : List Nd) (rows : List Nat) : List Nd × (Nat → Nat) :=
  match r with
  | .neg => growF .neg ns rows
  | .box => growF .box ns rows
  | .dou => ((growF .dou (growF .box ns rows).1 (rows.map (growF .box ns rows).2)).1, fun i => (growF .dou (growF .box ns rows).1 (rows.map (growF .box ns rows).2)).2 ((growF .box ns rows).2 i))
  | _ => (ns, fun i => i)
def R7.denies : R7 → Bool
  | .neg => true
  | .den => true
  | _ => false
/-- the read claim -/
def readC (r : R7) (ns : List Nd) (le ri : List Nat) : List Nd × List Nat × List Nat :=
  if r.denies then ((denyL (newC r ns (le ++ ri)).1 (ri.map (newC r ns (le ++ ri)).2)).2, srtN (le.map (newC r ns (le ++ ri)).2 ++ (denyL (newC r ns (le ++ ri)).1 (ri.map (newC r ns (le ++ ri)).2)).1), [])
  else ((newC r ns (le ++ ri)).1, srtN (le.map (newC r ns (le ++ ri)).2), srtN (ri.map (newC r ns (le ++ ri)).2))
/-! ### claims as data -/
def clD (ns : List Nd) (l r : List Nat) : PyData := .tuple [.list (ns.map Nd.data), .tuple [], .tuple (nD l), .tuple (nD r)]
def emptyT : PyData → Bool
  | .tuple [] => true
  | _ => false
/-- the first error of a claim -/
def claimW : PyData → Option (Str × PyData)
  | .tuple [sh, th, le, ri] =>
    match wrongD 5000 false sh with
    | some i => some ("BadSheet", .int i)
    | none => if (rowsB (lenD sh) th && emptyT th) = false then some ("BadClaim", .str "theory") else if rowsB (lenD sh) le = false then some ("BadClaim", .str "left") else if rowsB (lenD sh) ri = false then some ("BadClaim", .str "right") else none
  | _ => some ("BadClaim", .str "claim")
/-- a right claim -/
structure RtC (ns : List Nd) (l r : List Nat) : Prop where
  ok : okSheet false ns
  hl : ns.length ≤ 5000
  bl : ∀ i ∈ l, i < ns.length
  br : ∀ i ∈ r, i < ns.length
  al : (l.map fun r => ((r : Nat) : Int)).Pairwise (· < ·)
  ar : (r.map fun r => ((r : Nat) : Int)).Pairwise (· < ·)
theorem claimW_none {d : PyData} (h : claimW d = none) : ∃ ns l r, d = clD ns l r ∧ RtC ns l r := by
  unfold claimW at h
  split at h
  · rename_i sh th le ri
    split at h
    · cases h
    · rename_i e
      obtain ⟨ns, rfl, ok, hl⟩ := wrongD_none (by decide) e
      have el : lenD (.list (ns.map Nd.data)) = ns.length := by show (ns.map Nd.data).length = ns.length; rw [List.length_map]
      rw [el] at h
      split at h
      · cases h
      · rename_i h1
        split at h
        · cases h
        · rename_i h2
          split at h
          · cases h
          · rename_i h3
            have h1 : (rowsB (ns.length : Nat) th && emptyT th) = true := by
              cases c : (rowsB (ns.length : Nat) th && emptyT th) with
              | true => rfl
              | false => exact absurd c h1
            have h2 : rowsB (ns.length : Nat) le = true := by simpa using h2
            have h3 : rowsB (ns.length : Nat) ri = true := by simpa using h3
            rw [Bool.and_eq_true] at h1
            have e2 : th = .tuple [] := by
              have := h1.2
              unfold emptyT at this
              split at this
              · rfl
              · cases this
            subst e2
            obtain ⟨l, rfl, b1, a1⟩ := rows_nat h2
            obtain ⟨r, rfl, b2, a2⟩ := rows_nat h3
            exact ⟨ns, l, r, rfl, ok, by omega, fun i hi => by have := b1 i hi; omega, fun i hi => by have := b2 i hi; omega, a1, a2⟩
  · cases h
/-- what is due -/
inductive DueC (rd cl : PyData) : PyData → Prop
  | value (h : isR7 rd = none) : DueC rd cl (.tuple [.str "BadValue", .str "reading"])
  | wrong (r : R7) (h : isR7 rd = some r) (c : Str) (x : PyData) (h2 : claimW cl = some (c, x)) : DueC rd cl (.tuple [.str c, x])
  | told (r : R7) (h : isR7 rd = some r) (ns : List Nd) (le ri : List Nat) (hc : cl = clD ns le ri) (h2 : claimW cl = none) (ok : RtC ns le ri) : DueC rd cl (.tuple [.str "told", clD (readC r ns le ri).1 (readC r ns le ri).2.1 (readC r ns le ri).2.2])
theorem dueC_ex (rd cl : PyData) : ∃ e, DueC rd cl e := by
  cases h : isR7 rd with
  | none => exact ⟨_, .value h⟩
  | some r =>
    cases h2 : claimW cl with
    | some p => obtain ⟨c, x⟩ := p; exact ⟨_, .wrong r h c x h2⟩
    | none =>
      obtain ⟨ns, l, ri, e, ok⟩ := claimW_none h2
      exact ⟨_, .told r h ns l ri e h2 ok⟩
theorem clD_inj {ns ms : List Nd} {l r k m : List Nat} (h : clD ns l r = clD ms k m) : ns = ms ∧ l = k ∧ r = m := by
  unfold clD at h
  injection h with h
  injection h with h1 h
  injection h1 with h1
  injection h with h2 h
  injection h with h3 h
  injection h3 with h3
  injection h with h4 h
  injection h4 with h4
  have inj : ∀ {a b : List Nat}, nD a = nD b → a = b := fun {a b} e => by
    have := congrArg (List.map intD) e
    rw [nD_int, nD_int] at this
    exact cast_inj this
  exact ⟨nds_inj h1, inj h3, inj h4⟩
end LL

set_option Elab.async false
set_option linter.all false
set_option maxRecDepth 100000
set_option maxHeartbeats 400000
/-! LCmp: comprehensions over range(lo, hi) -/
namespace LL
open PySem PySem.Spec PyProof.Rows L2
section
variable [KW]
variable {K : PySem.W.Frag} {a D : Addr} {xs : List V} {g : TG} {te : TE} {vs : List Nat} {σ : L2.St} {H1 : Hp} {Qd : Hp → Prop}
theorem lc_mapRl {lo : Int} {n : Nat} (ys : Nat → V) (hD : H1 D = none) (hz : n ≤ 1000000)
    (hs : ∀ (i : Nat) (H : Hp) (acc : List V) (R : V → Hp → Prop), i < n → Adv [] H1 H → H D = some (.lst acc) → (∀ H4, H4 D = some (.lst acc) → Adv [] H1 H4 → R (ys i) H4) → g (.int (lo + (i : Nat))) (wipe σ vs) H fun σ2 H2 => wipe σ2 vs = wipe σ vs ∧ te σ2 H2 R)
    (hd : ∀ H, Adv [] H1 H → H D = some (.lst ((List.range n).map ys)) → Qd H) :
    ∃ W : Nat → Nat → Hp → Prop, (∃ m, W 0 m (upd H1 D (.lst []))) ∧ ∀ i m H, W i m H →
      ((Itr lo n).stop i H ∧ Qd H) ∨ ((Itr lo n).go i H ∧ ∃ Nx : Hp → Prop, (∀ H', Nx H' → ∃ m', m' < m ∧ W (i + 1) m' H') ∧ ∀ x H', (Itr lo n).yld i H x H' → g x (wipe σ vs) H' fun σ2 H2 => wipe σ2 vs = wipe σ vs ∧ tYes σ2 H2 fun b H3 =>
        if b = true then te σ2 H3 fun y H4 => ∃ acc, H4 D = some (.lst acc) ∧ acc.length < sizeLine ∧ Nx (upd H4 D (.lst (acc ++ [y]))) else Nx H3) := by
  refine lc_range (lo := lo) (n := n) (tt := tYes) (fun i H => Adv [] H1 H ∧ H D = some (.lst ((List.range i).map ys))) ⟨Adv.new hD, upd_same⟩ (fun i H hi p => ?_) (fun H p => hd H p.1 p.2)
  refine hs i H _ (fun y H4 => ∃ acc, H4 D = some (.lst acc) ∧ acc.length < sizeLine ∧ Adv [] H1 (upd H4 D (.lst (acc ++ [y]))) ∧ (upd H4 D (.lst (acc ++ [y]))) D = some (.lst ((List.range (i + 1)).map ys))) hi p.1 p.2 (fun H4 e4 a4 => ⟨_, e4, ?_, Adv.mut a4 hD, ?_⟩)
  · rw [List.length_map, List.length_range, sizeLine_eq]
    omega
  · rw [upd_same, range_map_succ]
theorem lc_filtRl {lo : Int} {n : Nat} {tt : TT} (ys : Nat → V) (c : Nat → Bool) (hD : H1 D = none) (hz : n ≤ 1000000)
    (hs : ∀ (i : Nat) (H : Hp) (acc : List V) (R : V → Hp → Prop) (R0 : Hp → Prop), i < n → Adv [] H1 H → H D = some (.lst acc) → (c i = true → ∀ H4, H4 D = some (.lst acc) → Adv [] H1 H4 → R (ys i) H4) →
      (c i = false → ∀ H4, H4 D = some (.lst acc) → Adv [] H1 H4 → R0 H4) → g (.int (lo + (i : Nat))) (wipe σ vs) H fun σ2 H2 => wipe σ2 vs = wipe σ vs ∧ tt σ2 H2 fun b H3 => if b = true then te σ2 H3 R else R0 H3)
    (hd : ∀ H, Adv [] H1 H → H D = some (.lst (((List.range n).filter c).map ys)) → Qd H) :
    ∃ W : Nat → Nat → Hp → Prop, (∃ m, W 0 m (upd H1 D (.lst []))) ∧ ∀ i m H, W i m H →
      ((Itr lo n).stop i H ∧ Qd H) ∨ ((Itr lo n).go i H ∧ ∃ Nx : Hp → Prop, (∀ H', Nx H' → ∃ m', m' < m ∧ W (i + 1) m' H') ∧ ∀ x H', (Itr lo n).yld i H x H' → g x (wipe σ vs) H' fun σ2 H2 => wipe σ2 vs = wipe σ vs ∧ tt σ2 H2 fun b H3 =>
        if b = true then te σ2 H3 fun y H4 => ∃ acc, H4 D = some (.lst acc) ∧ acc.length < sizeLine ∧ Nx (upd H4 D (.lst (acc ++ [y]))) else Nx H3) := by
  refine lc_range (lo := lo) (n := n) (tt := tt) (fun i H => Adv [] H1 H ∧ H D = some (.lst (((List.range i).filter c).map ys))) ⟨Adv.new hD, upd_same⟩ (fun i H hi p => ?_) (fun H p => hd H p.1 p.2)
  refine hs i H _ (fun y H4 => ∃ acc, H4 D = some (.lst acc) ∧ acc.length < sizeLine ∧ Adv [] H1 (upd H4 D (.lst (acc ++ [y]))) ∧ (upd H4 D (.lst (acc ++ [y]))) D = some (.lst (((List.range (i + 1)).filter c).map ys)))
    (fun H3 => Adv [] H1 H3 ∧ H3 D = some (.lst (((List.range (i + 1)).filter c).map ys))) hi p.1 p.2 (fun hc H4 e4 a4 => ⟨_, e4, ?_, Adv.mut a4 hD, ?_⟩) (fun hc H4 e4 a4 => ⟨a4, ?_⟩)
  · have h1 := List.length_filter_le c (List.range i)
    rw [List.length_range] at h1
    rw [List.length_map, sizeLine_eq]
    omega
  · rw [upd_same, range_filt_succ, if_pos hc]
  · rw [e4, range_filt_succ, if_neg (by rw [hc]; decide), List.append_nil]
end
theorem filt0 {n : Nat} (c : Nat → Bool) (ys : Nat → V) : decide (V.int ((((List.range n).filter c).map ys).length : Nat) = V.int 0) = (List.range n).all fun i => !c i := by
  rw [List.length_map]
  cases e : (List.range n).all fun i => !c i with
  | true =>
    have : (List.range n).filter c = [] := by
      rw [List.filter_eq_nil_iff]
      intro i hi
      have := List.all_eq_true.mp e i hi
      simpa using this
    rw [this]
    rfl
  | false =>
    apply decide_eq_false
    intro z
    have z := V.int.inj z
    have z : ((List.range n).filter c).length = 0 := by omega
    have z := List.length_eq_zero_iff.mp z
    rw [List.filter_eq_nil_iff] at z
    have : (List.range n).all (fun i => !c i) = true := List.all_eq_true.mpr fun i hi => by
      have := z i hi
      simpa using this
    rw [e] at this
    cases this
end LL

set_option Elab.async false
set_option linter.all false
set_option maxRecDepth 100000
set_option maxHeartbeats 400000
/-! LDcm: {k: v for r in rows}, rows a list of row numbers -/
namespace LL
open PySem PySem.Spec PyProof.Rows L2
section
variable [KW]
variable {K : PySem.W.Frag} {a D : Addr} {xs : List V} {g : TG} {tt : TT} {tk tv : TE} {vs : List Nat} {σ : L2.St} {H1 : Hp} {Qd : Hp → Prop}
theorem dc_list (Pv : Nat → Hp → Prop) (h0 : Pv 0 (upd H1 D (.dK []))) (hl : ∀ i H, i ≤ xs.length → Pv i H → SqL K H a xs)
    (hs : ∀ i x H, xs[i]? = some x → Pv i H → g x (wipe σ vs) H fun σ2 H2 => wipe σ2 vs = wipe σ vs ∧ tt σ2 H2 fun b H3 =>
      if b = true then tk σ2 H3 fun y H4 => tv σ2 H4 fun z H5 => ∃ kvs k, y = kV k ∧ H5 D = some (.dK kvs) ∧ kvs.length < sizeLine ∧ Pv (i + 1) (upd H5 D (.dK (putK kvs k z))) else Pv (i + 1) H3) (hd : ∀ H, Pv xs.length H → Qd H) :
    ∃ W : Nat → Nat → Hp → Prop, (∃ m, W 0 m (upd H1 D (.dK []))) ∧ ∀ i m H, W i m H →
      ((Itl K a).stop i H ∧ Qd H) ∨ ((Itl K a).go i H ∧ ∃ Nx : Hp → Prop, (∀ H', Nx H' → ∃ m', m' < m ∧ W (i + 1) m' H') ∧ ∀ x H', (Itl K a).yld i H x H' → g x (wipe σ vs) H' fun σ2 H2 => wipe σ2 vs = wipe σ vs ∧ tt σ2 H2 fun b H3 =>
        if b = true then tk σ2 H3 fun y H4 => tv σ2 H4 fun z H5 => ∃ kvs k, y = kV k ∧ H5 D = some (.dK kvs) ∧ kvs.length < sizeLine ∧ Nx (upd H5 D (.dK (putK kvs k z))) else Nx H3) := by
  refine ⟨fun i m H => m = xs.length - i ∧ i ≤ xs.length ∧ Pv i H, ⟨xs.length, by simp, Nat.zero_le _, h0⟩, ?_⟩
  rintro i m H ⟨rfl, hi, p⟩
  have q := hl i H hi p
  by_cases hlt : i < xs.length
  · refine .inr ⟨⟨xs, xs[i], q, by simp [hlt]⟩, Pv (i + 1), fun H' p' => ⟨xs.length - (i + 1), by omega, rfl, hlt, p'⟩, fun x H' y => ?_⟩
    obtain ⟨e, y⟩ := y
    subst e
    exact hs i x _ (y xs q) p
  · have e : i = xs.length := by omega
    subst e
    exact .inl ⟨⟨xs, q, Nat.le_refl _⟩, hd H p⟩
theorem nVl_len (rows : List Nat) : (nVl rows).length = rows.length := List.length_map ..
theorem nVl_get {rows : List Nat} {i : Nat} {x : V} (h : (nVl rows)[i]? = some x) : ∃ r, rows[i]? = some r ∧ x = .int (r : Nat) := by
  unfold nVl at h
  rw [List.getElem?_map, Option.map_eq_some_iff] at h
  obtain ⟨r, h, rfl⟩ := h
  exact ⟨r, h, rfl⟩
/-- the dict tells f of each of the rows -/
def NewD (H : Hp) (d : Addr) (rows : List Nat) (f : Nat → Nat) : Prop := ∃ kvs : List (Key × V), H d = some (.dK kvs) ∧ ∀ r ∈ rows, valV kvs (Sum.inl ((r : Nat) : Int)) = some (.int (f r : Nat))
theorem NewD.get {H : Hp} {d : Addr} {rows : List Nat} {f : Nat → Nat} (x : NewD H d rows f) {r : Nat} (h : r ∈ rows) : DGet H d (.int (r : Nat)) (some (.int (f r : Nat))) := by
  obtain ⟨kvs, hd, hv⟩ := x
  have := DGet.k (k := Sum.inl ((r : Nat) : Int)) hd
  rw [hv r h] at this
  exact this
theorem NewD.adv {M : List Addr} {H H' : Hp} {d : Addr} {rows : List Nat} {f : Nat → Nat} (x : NewD H d rows f) (a : Adv M H H') (h : d ∉ M) : NewD H' d rows f := by
  obtain ⟨kvs, hd, hv⟩ := x
  exact ⟨kvs, a _ _ h hd, hv⟩
theorem NewD.same {H H' : Hp} {d : Addr} {rows : List Nat} {f : Nat → Nat} (x : NewD H d rows f) (a : Adv [] H H') : NewD H' d rows f := x.adv a (by simp)
theorem NewD.sub {H : Hp} {d : Addr} {rows rows' : List Nat} {f : Nat → Nat} (x : NewD H d rows f) (h : ∀ r ∈ rows', r ∈ rows) : NewD H d rows' f := by
  obtain ⟨kvs, hd, hv⟩ := x
  exact ⟨kvs, hd, fun r hr => hv r (h r hr)⟩
theorem dc_rows (rows : List Nat) (h : Nat → Nat) (hD : H1 D = none) (src : SqL K H1 a (nVl rows)) (hz : rows.length ≤ 1000000)
    (hs : ∀ (i : Nat) (r : Nat) (H : Hp) (T : V → V → Hp → Prop), rows[i]? = some r → Adv [] H1 H → T (.int (r : Nat)) (.int (h r : Nat)) H → g (.int (r : Nat)) (wipe σ vs) H fun σ2 H2 => wipe σ2 vs = wipe σ vs ∧ tk σ2 H2 fun y H4 => tv σ2 H4 fun z H5 => T y z H5)
    (hd : ∀ H, Adv [] H1 H → NewD H D rows h → Qd H) :
    ∃ W : Nat → Nat → Hp → Prop, (∃ m, W 0 m (upd H1 D (.dK []))) ∧ ∀ i m H, W i m H →
      ((Itl K a).stop i H ∧ Qd H) ∨ ((Itl K a).go i H ∧ ∃ Nx : Hp → Prop, (∀ H', Nx H' → ∃ m', m' < m ∧ W (i + 1) m' H') ∧ ∀ x H', (Itl K a).yld i H x H' → g x (wipe σ vs) H' fun σ2 H2 => wipe σ2 vs = wipe σ vs ∧ tYes σ2 H2 fun b H3 =>
        if b = true then tk σ2 H3 fun y H4 => tv σ2 H4 fun z H5 => ∃ kvs k, y = kV k ∧ H5 D = some (.dK kvs) ∧ kvs.length < sizeLine ∧ Nx (upd H5 D (.dK (putK kvs k z))) else Nx H3) := by
  have hl := nVl_len rows
  refine dc_list (K := K) (a := a) (xs := nVl rows) (tt := tYes) (fun i H => Adv [] H1 H ∧ ∃ kvs : List (Key × V), H D = some (.dK kvs) ∧ kvs.length ≤ i ∧ ∀ r ∈ rows.take i, valV kvs (Sum.inl ((r : Nat) : Int)) = some (.int (h r : Nat)))
    ⟨Adv.new hD, [], upd_same, Nat.le_refl _, by simp⟩ (fun i H _ p => SqL.adv p.1 src) (fun i x H hx p => ?_) (fun H p => ?_)
  · obtain ⟨aH, kvs, hk, hkl, hv⟩ := p
    obtain ⟨r, hr, rfl⟩ := nVl_get hx
    have hi : i < rows.length := (List.getElem?_eq_some_iff.mp hr).1
    refine hs i r H (fun y z H5 => ∃ kvs k, y = kV k ∧ H5 D = some (.dK kvs) ∧ kvs.length < sizeLine ∧ Adv [] H1 (upd H5 D (.dK (putK kvs k z))) ∧ ∃ kvs', (upd H5 D (.dK (putK kvs k z))) D = some (.dK kvs') ∧ kvs'.length ≤ i + 1 ∧ ∀ r ∈ rows.take (i + 1), valV kvs' (Sum.inl ((r : Nat) : Int)) = some (.int (h r : Nat))) hr aH ?_
    refine ⟨kvs, Sum.inl ((r : Nat) : Int), rfl, hk, by rw [sizeLine_eq]; omega, Adv.mut aH hD, _, upd_same, ?_, fun q hq => ?_⟩
    · have := length_putK kvs (Sum.inl ((r : Nat) : Int)) (V.int (h r : Nat))
      omega
    · rw [valV_put]
      by_cases e : (Sum.inl ((q : Nat) : Int) : Key) = Sum.inl ((r : Nat) : Int)
      · rw [if_pos e]
        have : q = r := Int.ofNat.inj (Sum.inl.inj e)
        rw [this]
      · rw [if_neg e]
        rw [List.take_add_one, hr] at hq
        rcases List.mem_append.mp hq with hq | hq
        · exact hv q hq
        · exact absurd (by rw [List.mem_singleton.mp hq]) e
  · obtain ⟨aH, kvs, hk, hkl, hv⟩ := p
    refine hd H aH ⟨kvs, hk, fun r hr => hv r ?_⟩
    rw [hl, List.take_length]
    exact hr
end
end LL

set_option Elab.async false
set_option linter.all false
set_option maxRecDepth 100000
set_option maxHeartbeats 400000
/-! LGrow: what grows from right rows is right -/
namespace LL
open PySem PySem.Spec PyProof.Rows L2
section
variable [KW]
theorem ok_true {ns : List Nd} (h : okSheet false ns) : okSheet true ns := ⟨h.1, fun i n hn => by
  have := h.2 i n hn
  cases n <;> simp_all [Nd.ok]⟩
theorem readF_okv {w : W3} {bx : Bool} {old : List Nd} (hw : w = .neg ∨ bx = true) (oo : okSheet bx old) : ∀ (l : List Nat) (ns : List Nd) (f : Nat → Nat) (done : List Nat), okSheet bx ns → old.length ≤ ns.length → (∀ i ∈ done, f i < ns.length) →
    (∀ i ∈ l, i < old.length) → (∀ (a : List Nat) (i : Nat) (b : List Nat) (n : Nd), l = a ++ i :: b → old[i]? = some n → ∀ p ∈ n.parts, p ∈ done ++ a) → okSheet bx (readF w old l ns f).1 ∧ ∀ i ∈ done ++ l, (readF w old l ns f).2 i < (readF w old l ns f).1.length
  | [], ns, f, done, ok, _, hd, _, _ => ⟨ok, fun i hi => hd i (by simpa using hi)⟩
  | i :: l, ns, f, done, ok, hl, hd, hi, hp => by
    have hil := hi i List.mem_cons_self
    have hni : old[i]? = some old[i] := List.getElem?_eq_getElem hil
    have hs := stepF_ok (w := w) (ns := ns) (n := old[i]) (i := i) (f := f) hw ok (oo.2 i _ hni) (by omega) (fun p hp' => hd p (by have := hp [] i l _ rfl hni p hp'; simpa using this))
    have hpre := (stepF_pre w ns i old[i] f).length_le
    have e : done ++ i :: l = (done ++ [i]) ++ l := by simp
    rw [e]
    unfold readF
    rw [hni]
    refine readF_okv hw oo l _ _ (done ++ [i]) hs.1 (by show old.length ≤ (stepF w ns i old[i] f).2.length; omega) (fun j hj => ?_) (fun j hj => hi j (List.mem_cons_of_mem _ hj)) (fun a j b n e hn p hp' => ?_)
    · show (if j = i then (stepF w ns i old[i] f).1 else f j) < (stepF w ns i old[i] f).2.length
      by_cases e : j = i
      · rw [if_pos e]; exact hs.2
      · rw [if_neg e]
        rcases List.mem_append.mp hj with hj | hj
        · have := hd j hj; omega
        · exact absurd (List.mem_singleton.mp hj) e
    · have := hp (i :: a) j b n (by rw [e]; rfl) hn p hp'
      rw [List.append_assoc]
      exact this
theorem growF_ok {w : W3} {bx : Bool} {ns : List Nd} {rows : List Nat} (hw : w = .neg ∨ bx = true) (ok : okSheet bx ns) (hr : ∀ r ∈ rows, r < ns.length) : okSheet bx (growF w ns rows).1 ∧ ∀ r ∈ rows, (growF w ns rows).2 r < (growF w ns rows).1.length := by
  have h := readF_okv hw ok (belowF ns rows) ns (fun _ => 0) [] ok (Nat.le_refl _) (fun i hi => nomatch hi) (fun i hi => (below_mem.mp hi).1) (fun a i b n e hn p hp => by
    have hm : i ∈ belowF ns rows := by rw [e]; simp
    obtain ⟨h1, h2⟩ := below_parts ok hm hn p hp
    have hr : (belowF ns rows)[a.length]? = some i := by rw [e]; simp
    have := below_take hr h1 h2
    rw [e, List.take_append_of_le_length (Nat.le_refl _), List.take_length] at this
    simpa using this)
  exact ⟨h.1, fun r hr' => h.2 r (by simpa using below_row hr' (hr r hr'))⟩
theorem growF_len (w : W3) (ns : List Nd) (rows : List Nat) : (growF w ns rows).1.length ≤ 9 * ns.length := by
  have h1 := readF_len w ns (belowF ns rows) ns (fun _ => 0)
  have h2 := below_len ns rows
  unfold growF
  omega
theorem stepF_len2 {w : W3} (hw : w ≠ .neg) (ns : List Nd) (i : Nat) (n : Nd) (f : Nat → Nat) : (stepF w ns i n f).2.length ≤ ns.length + 2 := by
  unfold stepF
  split
  · simp
  · simp
  · exact absurd rfl hw
  · have := rowF_len ns (.box i)
    omega
  · exact absurd rfl hw
  · rename_i j k
    have h1 := rowF_len ns (.bin .imp (f j) (f k))
    have h2 := rowF_len (rowF ns (.bin .imp (f j) (f k))).2 (.box (rowF ns (.bin .imp (f j) (f k))).1)
    show (rowF _ _).2.length ≤ _
    omega
  · rename_i j
    have h1 := rowF_len ns (.box (f j))
    have h2 := rowF_len (rowF ns (.box (f j))).2 (.bin .and (f j) (rowF ns (.box (f j))).1)
    show (rowF _ _).2.length ≤ _
    omega
  · have := rowF_len ns (n.moved f)
    omega
theorem readF_len2 {w : W3} (hw : w ≠ .neg) (old : List Nd) : ∀ (l : List Nat) (ns : List Nd) (f : Nat → Nat), (readF w old l ns f).1.length ≤ ns.length + 2 * l.length
  | [], ns, f => by simp [readF]
  | j :: l, ns, f => by
    have h1 := stepF_len2 hw ns j (old[j]?.getD .no) f
    have h2 := readF_len2 hw old l (stepF w ns j (old[j]?.getD .no) f).2 (fun x => if x = j then (stepF w ns j (old[j]?.getD .no) f).1 else f x)
    show (readF w old l (stepF w ns j (old[j]?.getD .no) f).2 _).1.length ≤ _
    rw [List.length_cons]
    omega
theorem growF_len2 {w : W3} (hw : w ≠ .neg) (ns : List Nd) (rows : List Nat) : (growF w ns rows).1.length ≤ 3 * ns.length := by
  have h1 := readF_len2 hw ns (belowF ns rows) ns (fun _ => 0)
  have h2 := below_len ns rows
  unfold growF
  omega
/-- the first step of a reading -/
theorem newC_ok {r : R7} {bx : Bool} {ns : List Nd} {rows : List Nat} (hb : r.denies = true ∨ bx = true) (ok : okSheet bx ns) (hr : ∀ i ∈ rows, i < ns.length) : okSheet bx (newC r ns rows).1 ∧ ∀ i ∈ rows, (newC r ns rows).2 i < (newC r ns rows).1.length := by
  have two : r.denies = false → bx = true := fun h => by
    rcases hb with hb | hb
    · rw [h] at hb; cases hb
    · exact hb
  cases r with
  | neg => exact growF_ok (.inl rfl) ok hr
  | den => exact ⟨ok, hr⟩
  | box => exact growF_ok (.inr (two rfl)) ok hr
  | dou =>
    obtain ⟨o1, h1⟩ := growF_ok (w := .box) (.inr (two rfl)) ok hr
    obtain ⟨o2, h2⟩ := growF_ok (w := .dou) (rows := rows.map (growF .box ns rows).2) (.inr (two rfl)) o1 (fun i hi => by
      obtain ⟨j, hj, rfl⟩ := List.mem_map.mp hi
      exact h1 j hj)
    exact ⟨o2, fun i hi => h2 _ (List.mem_map.mpr ⟨i, hi, rfl⟩)⟩
  | mk => exact ⟨ok, hr⟩
  | ms => exact ⟨ok, hr⟩
  | mg => exact ⟨ok, hr⟩
theorem newC_len (r : R7) (ns : List Nd) (rows : List Nat) : (newC r ns rows).1.length ≤ 9 * ns.length := by
  have h1 := growF_len .neg ns rows
  have h2 := growF_len2 (w := .box) (by decide) ns rows
  have h3 := growF_len2 (w := .dou) (by decide) (growF .box ns rows).1 (rows.map (growF .box ns rows).2)
  cases r with
  | neg => show (growF .neg ns rows).1.length ≤ _; omega
  | den => show ns.length ≤ _; omega
  | box => show (growF .box ns rows).1.length ≤ _; omega
  | dou => show (growF .dou (growF .box ns rows).1 (rows.map (growF .box ns rows).2)).1.length ≤ _; omega
  | mk => show ns.length ≤ _; omega
  | ms => show ns.length ≤ _; omega
  | mg => show ns.length ≤ _; omega
theorem readC_len (r : R7) (ns : List Nd) (le ri : List Nat) : (readC r ns le ri).1.length ≤ 9 * ns.length + 2 * ri.length ∧ (readC r ns le ri).2.1.length ≤ le.length + ri.length ∧ (readC r ns le ri).2.2.length ≤ ri.length := by
  have h1 := newC_len r ns (le ++ ri)
  have h2 := denyL_len (ri.map (newC r ns (le ++ ri)).2) (newC r ns (le ++ ri)).1
  have h3 := denyL_len1 (ri.map (newC r ns (le ++ ri)).2) (newC r ns (le ++ ri)).1
  have h4 := srtN_len (le.map (newC r ns (le ++ ri)).2)
  have h5 := srtN_len (ri.map (newC r ns (le ++ ri)).2)
  have h6 := srtN_len (le.map (newC r ns (le ++ ri)).2 ++ (denyL (newC r ns (le ++ ri)).1 (ri.map (newC r ns (le ++ ri)).2)).1)
  rw [List.length_map] at h2 h3 h4 h5
  rw [List.length_append, List.length_map, h3] at h6
  unfold readC
  split
  · refine ⟨?_, ?_, ?_⟩ <;> dsimp only [List.length_nil] <;> omega
  · refine ⟨?_, ?_, ?_⟩ <;> dsimp only <;> omega
theorem readC_ok {r : R7} {bx : Bool} {ns : List Nd} {le ri : List Nat} (hb : r.denies = true ∨ bx = true) (ok : okSheet bx ns) (hl : ∀ i ∈ le, i < ns.length) (hr : ∀ i ∈ ri, i < ns.length) :
    okSheet bx (readC r ns le ri).1 ∧ (∀ i ∈ (readC r ns le ri).2.1, i < (readC r ns le ri).1.length) ∧ ∀ i ∈ (readC r ns le ri).2.2, i < (readC r ns le ri).1.length := by
  obtain ⟨o1, h1⟩ := newC_ok (r := r) (rows := le ++ ri) hb ok (fun i hi => by
    rcases List.mem_append.mp hi with h | h
    · exact hl i h
    · exact hr i h)
  obtain ⟨o2, h2⟩ := denyL_ok (ri.map (newC r ns (le ++ ri)).2) _ o1 (fun i hi => by
    obtain ⟨j, hj, rfl⟩ := List.mem_map.mp hi
    exact h1 j (List.mem_append_right _ hj))
  have hp := (denyL_pre (ri.map (newC r ns (le ++ ri)).2) (newC r ns (le ++ ri)).1).length_le
  unfold readC
  split
  · refine ⟨o2, fun i hi => ?_, fun i hi => nomatch hi⟩
    rcases List.mem_append.mp (srtN_mem.mp hi) with h | h
    · obtain ⟨j, hj, rfl⟩ := List.mem_map.mp h
      have := h1 j (List.mem_append_left _ hj)
      show _ < (denyL (newC r ns (le ++ ri)).1 (ri.map (newC r ns (le ++ ri)).2)).2.length
      omega
    · exact h2 i h
  · refine ⟨o1, fun i hi => ?_, fun i hi => ?_⟩
    · obtain ⟨j, hj, rfl⟩ := List.mem_map.mp (srtN_mem.mp hi)
      exact h1 j (List.mem_append_left _ hj)
    · obtain ⟨j, hj, rfl⟩ := List.mem_map.mp (srtN_mem.mp hi)
      exact h1 j (List.mem_append_right _ hj)
theorem claimW_sz {d : PyData} {c : Str} {x : PyData} (h : claimW d = some (c, x)) : sz x = 1 := by
  unfold claimW at h
  split at h
  · split at h
    · cases h; exact sz1_int _
    · split at h
      · cases h; exact sz1_str _
      · split at h
        · cases h; exact sz1_str _
        · split at h
          · cases h; exact sz1_str _
          · cases h
  · cases h; exact sz1_str _
theorem dueC_sz {d1 d2 e : PyData} (h : DueC d1 d2 e) (hs : ∀ ns le ri, d2 = clD ns le ri → le.length + ri.length ≤ 3000) : sz e ≤ 1000000 := by
  cases h with
  | value _ => rw [sz_tup, szL_cons, szL_cons, szL_nil, sz1_str, sz1_str]; decide
  | wrong r _ c x h2 => rw [sz_tup, szL_cons, szL_cons, szL_nil, sz1_str, claimW_sz h2]; decide
  | told r _ ns le ri hc _ ok =>
    have h1 := hs ns le ri hc
    obtain ⟨l1, l2, l3⟩ := readC_len r ns le ri
    have h2 := ok.hl
    have h3 := nds_sz (readC r ns le ri).1
    unfold clD
    rw [sz_tup, szL_cons, szL_cons, szL_nil, sz1_str, sz_tup, szL_cons, szL_cons, szL_cons, szL_cons, szL_nil, sz_lst, sz_tup, sz_tup, sz_tup, szL_nil, nD_sz, nD_sz]
    omega
end
end LL

set_option Elab.async false
set_option linter.all false
set_option maxRecDepth 100000
set_option maxHeartbeats 400000
/-! LSid: the rows that a side is drawn from -/
namespace LL
open PySem PySem.Spec PyProof.Rows L2
section
variable [KW]
theorem filt_lt (k : Nat) : ∀ n, ((List.range n).filter fun i => decide (i < k)).length ≤ min n k
  | 0 => Nat.zero_le _
  | n + 1 => by
    have ih := filt_lt k n
    rw [List.range_succ, List.filter_append, List.length_append]
    by_cases h : n < k
    · have : ([n].filter fun i => decide (i < k)).length = 1 := by simp [h]
      omega
    · have : ([n].filter fun i => decide (i < k)).length = 0 := by simp [h]
      omega
theorem filt_ge (m : Nat) : ∀ n, ((List.range n).filter fun i => decide (m ≤ i)).length ≤ n - m
  | 0 => Nat.zero_le _
  | n + 1 => by
    have ih := filt_ge m n
    rw [List.range_succ, List.filter_append, List.length_append]
    by_cases h : m ≤ n
    · have : ([n].filter fun i => decide (m ≤ i)).length = 1 := by simp [h]
      omega
    · have : ([n].filter fun i => decide (m ≤ i)).length = 0 := by simp [h]
      omega
theorem filt_or (p q : Nat → Bool) : ∀ l : List Nat, (l.filter fun i => p i || q i).length ≤ (l.filter p).length + (l.filter q).length
  | [] => Nat.le_refl _
  | x :: l => by
    have ih := filt_or p q l
    rw [List.filter_cons, List.filter_cons, List.filter_cons]
    cases p x <;> cases q x <;> simp <;> omega
def sideC (n : Nat) (i : Nat) : Bool := decide ((n : Int) - 12 ≤ (i : Nat)) || decide (((i : Nat) : Int) < 4)
def sideL (n : Nat) : List Nat := (List.range n).filter (sideC n)
theorem sideL_len (n : Nat) : (sideL n).length ≤ 16 := by
  have h1 := filt_or (fun i => decide (n - 12 ≤ i)) (fun i => decide (i < 4)) (List.range n)
  have h2 := filt_ge (n - 12) n
  have h3 := filt_lt 4 n
  have e : sideC n = fun i => decide (n - 12 ≤ i) || decide (i < 4) := by
    funext i
    unfold sideC
    congr 1
    · congr 1
      apply propext
      omega
    · congr 1
      apply propext
      omega
  unfold sideL
  rw [e]
  omega
/-- a drawn side -/
structure SideR (n : Nat) (rows : List Nat) : Prop where
  len : rows.length ≤ 16
  lt : ∀ r ∈ rows, r < n
  asc : (rows.map fun r => ((r : Nat) : Int)).Pairwise (· < ·)
theorem side_of {n : Nat} {rows : List Nat} (h : rows.Sublist (sideL n)) : SideR n rows := by
  have h2 : rows.Sublist (List.range n) := h.trans List.filter_sublist
  refine ⟨Nat.le_trans h.length_le (sideL_len n), fun r hr => List.mem_range.mp (h2.subset hr), ?_⟩
  have h3 : rows.Pairwise (· < ·) := List.Pairwise.sublist h2 List.pairwise_lt_range
  exact List.pairwise_map.mpr (h3.imp fun {a b} h => by omega)
end
end LL

set_option Elab.async false
set_option linter.all false
set_option maxRecDepth 100000
set_option maxHeartbeats 4000000
namespace K60
open PySem PySem.Spec PyProof.Rows L2 LL
def top (i : Nat) : Stmt := PySem.Challenge.pw_provedorshown_k60_whole_read_claims.main.body.getD i (.Pass ⟨0, 0, 0, 0⟩)
abbrev s_is_integer : Stmt := top 19
theorem sc_is_integer : FnScope ["value"] ["value"] (defScope s_is_integer) := ⟨rfl, rfl, rfl, by decide +kernel, rfl, by decide +kernel, by decide +kernel⟩
abbrev s_is_between : Stmt := top 20
theorem sc_is_between : FnScope ["value", "low", "high"] ["value", "low", "high"] (defScope s_is_between) := ⟨rfl, rfl, rfl, by decide +kernel, rfl, by decide +kernel, by decide +kernel⟩
abbrev s_is_tuple_of : Stmt := top 21
theorem sc_is_tuple_of : FnScope ["value", "many"] ["value", "many"] (defScope s_is_tuple_of) := ⟨rfl, rfl, rfl, by decide +kernel, rfl, by decide +kernel, by decide +kernel⟩
abbrev s_are_any_rows : Stmt := top 22
theorem sc_are_any_rows : FnScope ["value", "count", "item"] ["value", "count"] (defScope s_are_any_rows) := ⟨rfl, rfl, rfl, by decide +kernel, rfl, by decide +kernel, by decide +kernel⟩
abbrev s_is_rising : Stmt := top 23
theorem sc_is_rising : FnScope ["values", "k"] ["values"] (defScope s_is_rising) := ⟨rfl, rfl, rfl, by decide +kernel, rfl, by decide +kernel, by decide +kernel⟩
abbrev s_are_rows : Stmt := top 24
theorem sc_are_rows : FnScope ["value", "count"] ["value", "count"] (defScope s_are_rows) := ⟨rfl, rfl, rfl, by decide +kernel, rfl, by decide +kernel, by decide +kernel⟩
abbrev s_check_logic : Stmt := top 32
theorem sc_check_logic : FnScope ["logic"] ["logic"] (defScope s_check_logic) := ⟨rfl, rfl, rfl, by decide +kernel, rfl, by decide +kernel, by decide +kernel⟩
abbrev s_is_boxed : Stmt := top 33
theorem sc_is_boxed : FnScope ["logic"] ["logic"] (defScope s_is_boxed) := ⟨rfl, rfl, rfl, by decide +kernel, rfl, by decide +kernel, by decide +kernel⟩
abbrev s_is_node : Stmt := top 34
theorem sc_is_node : FnScope ["value", "row", "boxed", "word", "part"] ["value", "row", "boxed"] (defScope s_is_node) := ⟨rfl, rfl, rfl, by decide +kernel, rfl, by decide +kernel, by decide +kernel⟩
abbrev s_wrong_row : Stmt := top 35
theorem sc_wrong_row : FnScope ["value", "most", "boxed", "seen", "row", "node"] ["value", "most", "boxed"] (defScope s_wrong_row) := ⟨rfl, rfl, rfl, by decide +kernel, rfl, by decide +kernel, by decide +kernel⟩
abbrev s_check_rows_of : Stmt := top 36
theorem sc_check_rows_of : FnScope ["sheet", "most", "boxed", "row"] ["sheet", "most", "boxed"] (defScope s_check_rows_of) := ⟨rfl, rfl, rfl, by decide +kernel, rfl, by decide +kernel, by decide +kernel⟩
abbrev s_parts : Stmt := top 37
theorem sc_parts : FnScope ["node"] ["node"] (defScope s_parts) := ⟨rfl, rfl, rfl, by decide +kernel, rfl, by decide +kernel, by decide +kernel⟩
abbrev s_rows_below : Stmt := top 38
theorem sc_rows_below : FnScope ["sheet", "rows", "marked", "row", "part"] ["sheet", "rows"] (defScope s_rows_below) := ⟨rfl, rfl, rfl, by decide +kernel, rfl, by decide +kernel, by decide +kernel⟩
abbrev s_places : Stmt := top 39
theorem sc_places : FnScope ["sheet", "table", "row", "node"] ["sheet"] (defScope s_places) := ⟨rfl, rfl, rfl, by decide +kernel, rfl, by decide +kernel, by decide +kernel⟩
abbrev s_row_for : Stmt := top 40
theorem sc_row_for : FnScope ["sheet", "table", "node"] ["sheet", "table", "node"] (defScope s_row_for) := ⟨rfl, rfl, rfl, by decide +kernel, rfl, by decide +kernel, by decide +kernel⟩
abbrev s_check_claim_to : Stmt := top 42
theorem sc_check_claim_to : FnScope ["logic", "claim", "most", "sheet", "theory", "left", "right"] ["logic", "claim", "most"] (defScope s_check_claim_to) := ⟨rfl, rfl, rfl, by decide +kernel, rfl, by decide +kernel, by decide +kernel⟩
abbrev s_check_any_claim : Stmt := top 43
theorem sc_check_any_claim : FnScope ["logic", "claim"] ["logic", "claim"] (defScope s_check_any_claim) := ⟨rfl, rfl, rfl, by decide +kernel, rfl, by decide +kernel, by decide +kernel⟩
abbrev s_same_word : Stmt := top 47
theorem sc_same_word : FnScope ["growing", "node", "new", "part"] ["growing", "node", "new"] (defScope s_same_word) := ⟨rfl, rfl, rfl, by decide +kernel, rfl, by decide +kernel, by decide +kernel⟩
abbrev s_negative_row : Stmt := top 48
theorem sc_negative_row : FnScope ["growing", "row", "node", "new", "first", "second"] ["growing", "row", "node", "new"] (defScope s_negative_row) := ⟨rfl, rfl, rfl, by decide +kernel, rfl, by decide +kernel, by decide +kernel⟩
abbrev s_boxed_row : Stmt := top 49
theorem sc_boxed_row : FnScope ["growing", "row", "node", "new", "read"] ["growing", "row", "node", "new"] (defScope s_boxed_row) := ⟨rfl, rfl, rfl, by decide +kernel, rfl, by decide +kernel, by decide +kernel⟩
abbrev s_doubled_row : Stmt := top 50
theorem sc_doubled_row : FnScope ["growing", "row", "node", "new", "read"] ["growing", "row", "node", "new"] (defScope s_doubled_row) := ⟨rfl, rfl, rfl, by decide +kernel, rfl, by decide +kernel, by decide +kernel⟩
abbrev s_grown : Stmt := top 52
theorem sc_grown : FnScope ["growing", "rows", "word", "reader", "sheet", "new", "row"] ["growing", "rows", "word"] (defScope s_grown) := ⟨rfl, rfl, rfl, by decide +kernel, rfl, by decide +kernel, by decide +kernel⟩
abbrev s_logics_of : Stmt := top 53
theorem sc_logics_of : FnScope ["reading"] ["reading"] (defScope s_logics_of) := ⟨rfl, rfl, rfl, by decide +kernel, rfl, by decide +kernel, by decide +kernel⟩
abbrev s_ascending : Stmt := top 54
theorem sc_ascending : FnScope ["rows"] ["rows"] (defScope s_ascending) := ⟨rfl, rfl, rfl, by decide +kernel, rfl, by decide +kernel, by decide +kernel⟩
abbrev s_grown_twice : Stmt := top 55
theorem sc_grown_twice : FnScope ["growing", "rows", "first", "second", "row"] ["growing", "rows"] (defScope s_grown_twice) := ⟨rfl, rfl, rfl, by decide +kernel, rfl, by decide +kernel, by decide +kernel⟩
abbrev s_read_sides : Stmt := top 56
theorem sc_read_sides : FnScope ["reading", "growing", "left", "right", "rows", "new", "denied", "row"] ["reading", "growing", "left", "right"] (defScope s_read_sides) := ⟨rfl, rfl, rfl, by decide +kernel, rfl, by decide +kernel, by decide +kernel⟩
abbrev s_read_claim_of : Stmt := top 57
theorem sc_read_claim_of : FnScope ["reading", "claim", "growing", "left", "right"] ["reading", "claim"] (defScope s_read_claim_of) := ⟨rfl, rfl, rfl, by decide +kernel, rfl, by decide +kernel, by decide +kernel⟩
abbrev s_reading_of : Stmt := top 58
theorem sc_reading_of : FnScope ["reading", "claim"] ["reading", "claim"] (defScope s_reading_of) := ⟨rfl, rfl, rfl, by decide +kernel, rfl, by decide +kernel, by decide +kernel⟩
abbrev s_law_stream : Stmt := top 60
theorem sc_law_stream : FnScope ["script"] ["script"] (defScope s_law_stream) := ⟨rfl, rfl, rfl, by decide +kernel, rfl, by decide +kernel, by decide +kernel⟩
abbrev s_law_next : Stmt := top 61
theorem sc_law_next : FnScope ["stream", "many", "k", "cell", "digit"] ["stream", "many"] (defScope s_law_next) := ⟨rfl, rfl, rfl, by decide +kernel, rfl, by decide +kernel, by decide +kernel⟩
abbrev s_law_pick : Stmt := top 62
theorem sc_law_pick : FnScope ["stream", "rows"] ["stream", "rows"] (defScope s_law_pick) := ⟨rfl, rfl, rfl, by decide +kernel, rfl, by decide +kernel, by decide +kernel⟩
abbrev s_law_from : Stmt := top 63
theorem sc_law_from : FnScope ["stream", "low", "high"] ["stream", "low", "high"] (defScope s_law_from) := ⟨rfl, rfl, rfl, by decide +kernel, rfl, by decide +kernel, by decide +kernel⟩
abbrev s_law_some : Stmt := top 64
theorem sc_law_some : FnScope ["stream", "rows", "share", "row"] ["stream", "rows", "share"] (defScope s_law_some) := ⟨rfl, rfl, rfl, by decide +kernel, rfl, by decide +kernel, by decide +kernel⟩
abbrev s_law_number : Stmt := top 65
theorem sc_law_number : FnScope ["value", "low", "high"] ["value", "low", "high"] (defScope s_law_number) := ⟨rfl, rfl, rfl, by decide +kernel, rfl, by decide +kernel, by decide +kernel⟩
abbrev s_law_same : Stmt := top 66
theorem sc_law_same : FnScope ["actual", "due", "left", "turn", "one", "other", "at", "key"] ["actual", "due"] (defScope s_law_same) := ⟨rfl, rfl, rfl, by decide +kernel, rfl, by decide +kernel, by decide +kernel⟩
abbrev s_law_copy : Stmt := top 67
theorem sc_law_copy : FnScope ["value", "found", "key", "item"] ["value"] (defScope s_law_copy) := ⟨rfl, rfl, rfl, by decide +kernel, rfl, by decide +kernel, by decide +kernel⟩
abbrev s_law_named : Stmt := top 68
theorem sc_law_named : FnScope ["error", "names", "fits"] ["error"] (defScope s_law_named) := ⟨rfl, rfl, rfl, by decide +kernel, rfl, by decide +kernel, by decide +kernel⟩
abbrev s_law_book : Stmt := top 69
theorem sc_law_book : FnScope ["sheet", "table", "at"] ["sheet"] (defScope s_law_book) := ⟨rfl, rfl, rfl, by decide +kernel, rfl, by decide +kernel, by decide +kernel⟩
abbrev s_law_row : Stmt := top 70
theorem sc_law_row : FnScope ["book", "node"] ["book", "node"] (defScope s_law_row) := ⟨rfl, rfl, rfl, by decide +kernel, rfl, by decide +kernel, by decide +kernel⟩
abbrev s_law_parts : Stmt := top 71
theorem sc_law_parts : FnScope ["node"] ["node"] (defScope s_law_parts) := ⟨rfl, rfl, rfl, by decide +kernel, rfl, by decide +kernel, by decide +kernel⟩
abbrev s_law_below : Stmt := top 72
theorem sc_law_below : FnScope ["sheet", "rows", "marked", "row", "at", "part"] ["sheet", "rows"] (defScope s_law_below) := ⟨rfl, rfl, rfl, by decide +kernel, rfl, by decide +kernel, by decide +kernel⟩
abbrev s_law_moved : Stmt := top 73
theorem sc_law_moved : FnScope ["node", "new", "part"] ["node", "new"] (defScope s_law_moved) := ⟨rfl, rfl, rfl, by decide +kernel, rfl, by decide +kernel, by decide +kernel⟩
abbrev s_law_not : Stmt := top 74
theorem sc_law_not : FnScope ["book", "row"] ["book", "row"] (defScope s_law_not) := ⟨rfl, rfl, rfl, by decide +kernel, rfl, by decide +kernel, by decide +kernel⟩
abbrev s_law_leaf : Stmt := top 75
theorem sc_law_leaf : FnScope ["stream", "book", "letters"] ["stream", "book", "letters"] (defScope s_law_leaf) := ⟨rfl, rfl, rfl, by decide +kernel, rfl, by decide +kernel, by decide +kernel⟩
abbrev s_law_tree : Stmt := top 76
theorem sc_law_tree : FnScope ["stream", "book", "letters", "many", "boxed", "first", "j", "k"] ["stream", "book", "letters", "many", "boxed"] (defScope s_law_tree) := ⟨rfl, rfl, rfl, by decide +kernel, rfl, by decide +kernel, by decide +kernel⟩
abbrev s_law_heap : Stmt := top 77
theorem sc_law_heap : FnScope ["stream", "book", "letters", "many", "boxed", "k", "rows", "j", "other", "word"] ["stream", "book", "letters", "many", "boxed"] (defScope s_law_heap) := ⟨rfl, rfl, rfl, by decide +kernel, rfl, by decide +kernel, by decide +kernel⟩
abbrev s_law_formula : Stmt := top 78
theorem sc_law_formula : FnScope ["stream", "book", "letters", "many", "boxed"] ["stream", "book", "letters", "many", "boxed"] (defScope s_law_formula) := ⟨rfl, rfl, rfl, by decide +kernel, rfl, by decide +kernel, by decide +kernel⟩
abbrev s_law_is_rows : Stmt := top 79
theorem sc_law_is_rows : FnScope ["value", "many", "row", "at"] ["value", "many"] (defScope s_law_is_rows) := ⟨rfl, rfl, rfl, by decide +kernel, rfl, by decide +kernel, by decide +kernel⟩
abbrev s_law_is_node : Stmt := top 80
theorem sc_law_is_node : FnScope ["value", "at", "boxed", "word", "part"] ["value", "at", "boxed"] (defScope s_law_is_node) := ⟨rfl, rfl, rfl, by decide +kernel, rfl, by decide +kernel, by decide +kernel⟩
abbrev s_law_wrong_row : Stmt := top 81
theorem sc_law_wrong_row : FnScope ["value", "most", "boxed", "seen", "at"] ["value", "most", "boxed"] (defScope s_law_wrong_row) := ⟨rfl, rfl, rfl, by decide +kernel, rfl, by decide +kernel, by decide +kernel⟩
abbrev s_law_reading_row : Stmt := top 82
theorem sc_law_reading_row : FnScope ["word", "book", "at", "new", "node", "one", "two", "row"] ["word", "book", "at", "new"] (defScope s_law_reading_row) := ⟨rfl, rfl, rfl, by decide +kernel, rfl, by decide +kernel, by decide +kernel⟩
abbrev s_law_read : Stmt := top 83
theorem sc_law_read : FnScope ["word", "book", "rows", "new", "at"] ["word", "book", "rows"] (defScope s_law_read) := ⟨rfl, rfl, rfl, by decide +kernel, rfl, by decide +kernel, by decide +kernel⟩
abbrev s_law_read_claim : Stmt := top 84
theorem sc_law_read_claim : FnScope ["reading", "claim", "book", "rows", "new", "row", "first", "second", "left", "right"] ["reading", "claim"] (defScope s_law_read_claim) := ⟨rfl, rfl, rfl, by decide +kernel, rfl, by decide +kernel, by decide +kernel⟩
abbrev s_law_logics : Stmt := top 85
theorem sc_law_logics : FnScope ["reading"] ["reading"] (defScope s_law_logics) := ⟨rfl, rfl, rfl, by decide +kernel, rfl, by decide +kernel, by decide +kernel⟩
abbrev s_law_claim_error : Stmt := top 86
theorem sc_law_claim_error : FnScope ["claim", "wrong", "k"] ["claim"] (defScope s_law_claim_error) := ⟨rfl, rfl, rfl, by decide +kernel, rfl, by decide +kernel, by decide +kernel⟩
abbrev s_law_long : Stmt := top 87
theorem sc_law_long : FnScope ["stream", "many", "words", "a", "b", "c", "rows", "at", "word", "other"] ["stream", "many", "words"] (defScope s_law_long) := ⟨rfl, rfl, rfl, by decide +kernel, rfl, by decide +kernel, by decide +kernel⟩
abbrev s_law_due : Stmt := top 88
theorem sc_law_due : FnScope ["reading", "claim", "wrong"] ["reading", "claim"] (defScope s_law_due) := ⟨rfl, rfl, rfl, by decide +kernel, rfl, by decide +kernel, by decide +kernel⟩
abbrev s_law_asked : Stmt := top 89
theorem sc_law_asked : FnScope ["reading", "claim", "handed", "told", "error", "name"] ["reading", "claim"] (defScope s_law_asked) := ⟨rfl, rfl, rfl, by decide +kernel, rfl, by decide +kernel, by decide +kernel⟩
abbrev s_law_asked_logics : Stmt := top 90
theorem sc_law_asked_logics : FnScope ["reading", "told", "error", "name"] ["reading"] (defScope s_law_asked_logics) := ⟨rfl, rfl, rfl, by decide +kernel, rfl, by decide +kernel, by decide +kernel⟩
abbrev s_law_sides : Stmt := top 91
theorem sc_law_sides : FnScope ["stream", "many", "found", "turn", "rows", "at"] ["stream", "many"] (defScope s_law_sides) := ⟨rfl, rfl, rfl, by decide +kernel, rfl, by decide +kernel, by decide +kernel⟩
abbrev s_law_twins : Stmt := top 92
theorem sc_law_twins : FnScope ["stream", "book", "left", "right", "j", "k", "one", "sides", "claim", "told", "more"] ["stream", "book"] (defScope s_law_twins) := ⟨rfl, rfl, rfl, by decide +kernel, rfl, by decide +kernel, by decide +kernel⟩
abbrev s_law_claim : Stmt := top 93
theorem sc_law_claim : FnScope ["stream", "kind", "sheet", "book", "turn", "sides", "claim"] ["stream"] (defScope s_law_claim) := ⟨rfl, rfl, rfl, by decide +kernel, rfl, by decide +kernel, by decide +kernel⟩
abbrev s_law_bent : Stmt := top 94
theorem sc_law_bent : FnScope ["stream", "claim", "sheet", "theory", "left", "right", "many", "kind", "bent", "odd"] ["stream", "claim"] (defScope s_law_bent) := ⟨rfl, rfl, rfl, by decide +kernel, rfl, by decide +kernel, by decide +kernel⟩
abbrev s_law : Stmt := top 95
theorem sc_law : FnScope ["script", "stream", "reading", "claim", "due", "told", "spoilt", "other", "bent", "word", "again"] ["script"] (defScope s_law) := ⟨rfl, rfl, rfl, by decide +kernel, rfl, by decide +kernel, by decide +kernel⟩
/-- the built-ins that the text does not name anew -/
structure Txt (K : PySem.W.Frag) (mg : Str → Option Value) : Prop where
  ValueError : mg "ValueError" = none
  abs : mg "abs" = none
  all : mg "all" = none
  bool : mg "bool" = none
  dict : mg "dict" = none
  enumerate : mg "enumerate" = none
  int : mg "int" = none
  isinstance : mg "isinstance" = none
  len : mg "len" = none
  list : mg "list" = none
  range : mg "range" = none
  set : mg "set" = none
  sorted : mg "sorted" = none
  str : mg "str" = none
  tuple : mg "tuple" = none
variable [KW]
/-- the constants of the top -/
structure Con (K : PySem.W.Frag) (mg : Str → Option Value) (w : World) : Prop where
  items : ∃ (a : Addr) (es : Array DictEntry) (n : Nat), mg "ITEMS" = some (.ref a) ∧ KDict K w a es n ∧ ∀ z : Str, ∃ r, PySem.W.nsIn K a z = some r ∧ RelV (match nItems z with | some k => V.int (k : Nat) | none => V.non) (r.getD .none)
  last : ∃ t, mg "LAST_LETTER" = some (.int 7 t)
  most : ∃ t, mg "MOST_PAPER_ROWS" = some (.int 5000 t)
  no : ∃ a, mg "NO" = some (.ref a) ∧ KW.tp a [.str "no"]
  logics : ∃ a, mg "LOGICS" = some (.ref a) ∧ ∀ H, SqT K H a [.str "classical", .str "intuit", .str "k", .str "s4", .str "gl"]
  modal : ∃ a, mg "MODAL" = some (.ref a) ∧ ∀ H, SqT K H a [.str "k", .str "s4", .str "gl"]
  logof : ∃ (a : Addr) (es : Array DictEntry) (n : Nat), mg "LOGICS_OF" = some (.ref a) ∧ KDict K w a es n ∧ (∀ z : Str, ∃ r, PySem.W.nsIn K a z = some r ∧ r.isSome = (r7Of z).isSome) ∧ ∀ r : R7, ∃ t, PySem.W.nsIn K a r.str = some (some (.ref t)) ∧ KW.tp t [.str r.lo, .str r.hi]
structure All (K : PySem.W.Frag) (mg : Str → Option Value) (w : World) where
  T : Txt K mg
  C : Con K mg w
  W : KWOk K w
  is_integer : Df K mg "is_integer" s_is_integer ["value"]
  is_between : Df K mg "is_between" s_is_between ["value", "low", "high"]
  is_tuple_of : Df K mg "is_tuple_of" s_is_tuple_of ["value", "many"]
  are_any_rows : Df K mg "are_any_rows" s_are_any_rows ["value", "count"]
  is_rising : Df K mg "is_rising" s_is_rising ["values"]
  are_rows : Df K mg "are_rows" s_are_rows ["value", "count"]
  check_logic : Df K mg "check_logic" s_check_logic ["logic"]
  is_boxed : Df K mg "is_boxed" s_is_boxed ["logic"]
  is_node : Df K mg "is_node" s_is_node ["value", "row", "boxed"]
  wrong_row : Df K mg "wrong_row" s_wrong_row ["value", "most", "boxed"]
  check_rows_of : Df K mg "check_rows_of" s_check_rows_of ["sheet", "most", "boxed"]
  parts : Df K mg "parts" s_parts ["node"]
  rows_below : Df K mg "rows_below" s_rows_below ["sheet", "rows"]
  places : Df K mg "places" s_places ["sheet"]
  row_for : Df K mg "row_for" s_row_for ["sheet", "table", "node"]
  check_claim_to : Df K mg "check_claim_to" s_check_claim_to ["logic", "claim", "most"]
  check_any_claim : Df K mg "check_any_claim" s_check_any_claim ["logic", "claim"]
  same_word : Df K mg "same_word" s_same_word ["growing", "node", "new"]
  negative_row : Df K mg "negative_row" s_negative_row ["growing", "row", "node", "new"]
  boxed_row : Df K mg "boxed_row" s_boxed_row ["growing", "row", "node", "new"]
  doubled_row : Df K mg "doubled_row" s_doubled_row ["growing", "row", "node", "new"]
  grown : Df K mg "grown" s_grown ["growing", "rows", "word"]
  logics_of : Df K mg "logics_of" s_logics_of ["reading"]
  ascending : Df K mg "ascending" s_ascending ["rows"]
  grown_twice : Df K mg "grown_twice" s_grown_twice ["growing", "rows"]
  read_sides : Df K mg "read_sides" s_read_sides ["reading", "growing", "left", "right"]
  read_claim_of : Df K mg "read_claim_of" s_read_claim_of ["reading", "claim"]
  reading_of : Df K mg "reading_of" s_reading_of ["reading", "claim"]
  law_stream : Df K mg "_law_stream" s_law_stream ["script"]
  law_next : Df K mg "_law_next" s_law_next ["stream", "many"]
  law_pick : Df K mg "_law_pick" s_law_pick ["stream", "rows"]
  law_from : Df K mg "_law_from" s_law_from ["stream", "low", "high"]
  law_some : Df K mg "_law_some" s_law_some ["stream", "rows", "share"]
  law_number : Df K mg "_law_number" s_law_number ["value", "low", "high"]
  law_same : Df K mg "_law_same" s_law_same ["actual", "due"]
  law_copy : Df K mg "_law_copy" s_law_copy ["value"]
  law_named : Df K mg "_law_named" s_law_named ["error"]
  law_book : Df K mg "_law_book" s_law_book ["sheet"]
  law_row : Df K mg "_law_row" s_law_row ["book", "node"]
  law_parts : Df K mg "_law_parts" s_law_parts ["node"]
  law_below : Df K mg "_law_below" s_law_below ["sheet", "rows"]
  law_moved : Df K mg "_law_moved" s_law_moved ["node", "new"]
  law_not : Df K mg "_law_not" s_law_not ["book", "row"]
  law_leaf : Df K mg "_law_leaf" s_law_leaf ["stream", "book", "letters"]
  law_tree : Df K mg "_law_tree" s_law_tree ["stream", "book", "letters", "many", "boxed"]
  law_heap : Df K mg "_law_heap" s_law_heap ["stream", "book", "letters", "many", "boxed"]
  law_formula : Df K mg "_law_formula" s_law_formula ["stream", "book", "letters", "many", "boxed"]
  law_is_rows : Df K mg "_law_is_rows" s_law_is_rows ["value", "many"]
  law_is_node : Df K mg "_law_is_node" s_law_is_node ["value", "at", "boxed"]
  law_wrong_row : Df K mg "_law_wrong_row" s_law_wrong_row ["value", "most", "boxed"]
  law_reading_row : Df K mg "_law_reading_row" s_law_reading_row ["word", "book", "at", "new"]
  law_read : Df K mg "_law_read" s_law_read ["word", "book", "rows"]
  law_read_claim : Df K mg "_law_read_claim" s_law_read_claim ["reading", "claim"]
  law_logics : Df K mg "_law_logics" s_law_logics ["reading"]
  law_claim_error : Df K mg "_law_claim_error" s_law_claim_error ["claim"]
  law_long : Df K mg "_law_long" s_law_long ["stream", "many", "words"]
  law_due : Df K mg "_law_due" s_law_due ["reading", "claim"]
  law_asked : Df K mg "_law_asked" s_law_asked ["reading", "claim"]
  law_asked_logics : Df K mg "_law_asked_logics" s_law_asked_logics ["reading"]
  law_sides : Df K mg "_law_sides" s_law_sides ["stream", "many"]
  law_twins : Df K mg "_law_twins" s_law_twins ["stream", "book"]
  law_claim : Df K mg "_law_claim" s_law_claim ["stream"]
  law_bent : Df K mg "_law_bent" s_law_bent ["stream", "claim"]
  law : Df K mg "law" s_law ["script"]
end K60

set_option Elab.async false
set_option linter.all false
set_option maxRecDepth 100000
set_option maxHeartbeats 4000000
namespace K60
open PySem PySem.Spec PyProof.Rows L2 LL
open C8 (pss_cut)
section
variable [KW]
variable {P : Program} {w : World} {K : PySem.W.Frag} {mg : Str → Option Value} {base : Heap}
/-! ### _law_stream -/
def spStream (K : PySem.W.Frag) : Sp := fun vs H Q _ => ∃ (a : Addr) (ns : List Int), vs = [.ref a] ∧ SqL K H a (ns.map V.int) ∧ ns.length ≤ 63 ∧
  ∀ s H', H s = none → StrAt [] H' s → Adv [] H H' → Q (.ref s) H'
theorem ok_law_stream (A : All K mg w) : FnOk P w K mg base CX0 1 A.law_stream.f A.law_stream.fd ["script"] (spStream K) := by
  refine A.law_stream.F.ok sc_law_stream (fun vs H Q E h => ?_) (fun cdv Ar outer s H vs Q E hr h => ?_)
  · obtain ⟨a, ns, rfl, _⟩ := h
    rfl
  · obtain ⟨a, ns, rfl, hS, hl, q⟩ := h
    refine ⟨_, pss_one (ps_ret (pe_lst (pa_cons (pe_callTy call_list_of (by rfl) A.T.list (by decide +kernel) (pa_cons (pv 0) pa_nil)) (pa_cons pe_int (pa_cons pe_int pa_nil))))), ?_⟩
    refine ⟨_, rfl, a, _, rfl, .inl hS, fun l nl => ?_⟩
    refine ⟨by show 3 ≤ sizeLine; decide, fun p np => ?_⟩
    have npl : l ≠ p := fun z => by rw [← z, upd_same] at np; cases np
    have np0 : H p = none := by rw [upd_ne npl.symm] at np; exact np
    refine q p _ np0 ⟨l, ns, 0, 0, upd_same, by rw [upd_ne npl, upd_same], Int.le_refl _, Int.le_refl _, by simp⟩ ?_
    exact Adv.trans (Adv.new nl) (Adv.new np)
/-! ### _law_next -/
def spNext : Sp := fun vs H Q _ => ∃ (s : Addr) (many : Int) (M : List Addr), vs = [.ref s, .int many] ∧ StrAt M H s ∧ 0 < many ∧ many < 1073741824 ∧
  ∀ d H', 0 ≤ d → d < many → StrAt M H' s → Adv [s] H H' → Q (.int d) H'
theorem ok_law_next (A : All K mg w) : FnOk P w K mg base CX0 1 A.law_next.f A.law_next.fd ["stream", "many"] spNext := by
  refine A.law_next.F.ok sc_law_next (fun vs H Q E h => ?_) (fun cdv Ar outer s H vs Q E hr h => ?_)
  · obtain ⟨a, ns, M, rfl, _⟩ := h
    rfl
  · obtain ⟨s, many, M, rfl, ⟨l, ns, c, k, hs, hl, hc, hk, hlM⟩, hm, hm2, q⟩ := h
    refine ⟨_, (pss_cut (ps_if (pt_cmpR op_eq (pe_ix ix_list (pv 0) pe_int (fun _ _ => rfl)) pe_int (nomark _))
      (pss_cons (ps_set (i := 2) sc_law_next.nd rfl (Or.inl rfl) (pe_ix ix_list (pv 0) pe_int (fun _ _ => rfl)))
      (pss_cons (ps_set (i := 3) sc_law_next.nd rfl (Or.inl rfl) (pe_op op_add pe_int (pv 2)))
      (pss_cut (ps_if (pt_cmpR op_lt (pv 2) (pe_callB call_len_seq (by rfl) A.T.len PySem.boot_len (pa_cons (pe_ix ix_list (pv 0) pe_int (fun _ _ => rfl)) pa_nil)) (nomark _))
        (pss_one (ps_set (i := 3) sc_law_next.nd rfl (Or.inl rfl) (pe_callB call_abs (by rfl) A.T.abs (by decide +kernel) (pa_cons (pe_ix ix_list (pe_ix ix_list (pv 0) pe_int (fun _ _ => rfl)) (pv 2) (fun _ _ => rfl)) pa_nil))))
        pss_nil)
      (pss_cut (ps_if (pt_cmpR op_lt (pv 3) (pe_op op_pow pe_int pe_int) (nomark _))
        (pss_cons (ps_set (i := 3) sc_law_next.nd rfl (Or.inl rfl) (pe_op op_mod (pe_callTy call_int1 (by rfl) A.T.int (by decide +kernel) (pa_cons (pe_op op_add (pe_op op_add (pe_op op_mul (pv 3) pe_int) (pe_op op_mul (pv 2) pe_int)) pe_int) pa_nil)) pe_int))
        (pss_one (ps_set (i := 3) sc_law_next.nd rfl (Or.inl rfl) (pe_op op_add (pe_op op_mul (pe_op op_mod (pe_callTy call_int1 (by rfl) A.T.int (by decide +kernel) (pa_cons (pe_op op_add (pe_op op_mul (pv 3) pe_int) pe_int) pa_nil)) pe_int) pe_int) (pv 3)))))
        pss_nil)
      (pss_cons (ps_asg (pv 3) (pg_sub (pv 0) pe_int set_list))
      (pss_one (ps_asg (pe_op op_add (pv 2) pe_int) (pg_sub (pv 0) pe_int set_list))))))))
      pss_nil)
      (pss_cons (ps_set (i := 4) sc_law_next.nd rfl (Or.inl rfl) (pe_op op_mod (pe_callTy call_int1 (by rfl) A.T.int (by decide +kernel) (pa_cons (pe_ix ix_list (pv 0) pe_int (fun _ _ => rfl)) pa_nil)) (pv 1)))
      (pss_cons (ps_asg (pe_op op_fdiv (pe_ix ix_list (pv 0) pe_int (fun _ _ => rfl)) (pv 1)) (pg_sub (pv 0) pe_int set_list))
      (pss_one (ps_ret (pv 4)))))), ?_⟩
    have at0 : ∀ c k : Int, atI [V.ref l, .int c, .int k] 0 = some (.ref l) := fun _ _ => atI_nat (j := 0) rfl
    have at1 : ∀ c k : Int, atI [V.ref l, .int c, .int k] 1 = some (.int c) := fun _ _ => atI_nat (j := 1) rfl
    have at2 : ∀ c k : Int, atI [V.ref l, .int c, .int k] 2 = some (.int k) := fun _ _ => atI_nat (j := 2) rfl
    have nls : l ≠ s := ne_of hl hs ne_lst_ints.symm
    refine ⟨fun σ' H' => ∃ (c k : Int) (v2 v3 : Option V), σ' = [some (.ref s), some (.int many), v2, v3, none] ∧ H' s = some (.lst [V.ref l, .int c, .int k]) ∧ 0 ≤ c ∧ 0 ≤ k ∧ Adv [s] H H', ?_, ?_⟩
    · refine ⟨_, rfl, s, _, 1, _, rfl, rfl, SqL.of hs, at1 c k, rfl, _, rfl, ?_⟩
      refine iteB (fun e => ?_) (fun e => ⟨c, k, none, none, rfl, hs, hc, hk, Adv.refl _ _⟩)
      -- a new cell
      refine ⟨_, rfl, s, _, 2, _, rfl, rfl, SqL.of hs, at2 c k, ?_⟩
      refine ⟨_, rfl, 7, k, rfl, rfl, ?_⟩
      refine ⟨fun σ' H' => ∃ c1 : Int, σ' = [some (.ref s), some (.int many), some (.int k), some (.int c1), none] ∧ H = H' ∧ 0 ≤ c1, ?_, ?_⟩
      · refine ⟨_, rfl, _, rfl, s, _, 0, _, rfl, rfl, SqL.of hs, at0 c k, l, _, rfl, .inl (SqL.of hl), k, _, rfl, rfl, _, rfl, ?_⟩
        refine iteB (fun e => ?_) (fun e => ⟨7 + k, rfl, rfl, by omega⟩)
        have hlt : k < ns.length := by simpa using e
        obtain ⟨j, rfl⟩ : ∃ j : Nat, k = (j : Int) := ⟨k.toNat, by omega⟩
        have hj : j < ns.length := by omega
        have hg : (ns.map V.int)[j]? = some (.int ns[j]) := by simp [hj]
        refine ⟨_, rfl, s, _, 0, _, rfl, rfl, SqL.of hs, at0 c _, _, rfl, l, _, (j : Int), _, rfl, rfl, SqL.of hl, atI_nat hg, _, rfl, ?_⟩
        refine ⟨_, rfl, rfl, ?_⟩
        split <;> omega
      · rintro σ' H' ⟨c1, rfl, rfl, hc1⟩
        refine ⟨fun σ' H' => ∃ c1 : Int, σ' = [some (.ref s), some (.int many), some (.int k), some (.int c1), none] ∧ H = H' ∧ 0 ≤ c1, ?_, ?_⟩
        · refine ⟨_, rfl, 10, 18, rfl, rfl, ⟨by decide, by decide, by decide⟩, c1, _, rfl, rfl, _, rfl, ?_⟩
          refine iteB (fun e => ?_) (fun e => ⟨c1, rfl, rfl, hc1⟩)
          refine ⟨_, rfl, c1, 48271, rfl, rfl, .inr ⟨by decide, by decide⟩, _, rfl, k, 69621, rfl, rfl, .inr ⟨by decide, by decide⟩, _, _, rfl, rfl, _, _, rfl, rfl, .inl ⟨_, rfl, _, 2147483647, rfl, rfl, by show (0 : Int) < 2147483647; decide, ?_⟩⟩
          refine ⟨_, rfl, _, 16807, rfl, rfl, .inr ⟨by decide, by decide⟩, _, _, rfl, rfl, .inl ⟨_, rfl, _, 2147483647, rfl, rfl, by show (0 : Int) < 2147483647; decide, ?_⟩⟩
          refine ⟨_, _, rfl, rfl, .inr ⟨by decide, by decide⟩, _, rfl, _, _, rfl, rfl, ?_⟩
          refine ⟨_, rfl, rfl, ?_⟩
          omega
        · rintro σ' H' ⟨c2, rfl, rfl, hc2⟩
          refine ⟨_, rfl, _, rfl, s, _, 1, 1, rfl, rfl, hs, rfl, ?_⟩
          refine ⟨_, rfl, k, 1, rfl, rfl, _, rfl, s, _, 2, 2, rfl, rfl, upd_same, rfl, ?_⟩
          refine ⟨c2, k + 1, _, _, rfl, ?_, hc2, by omega, ?_⟩
          · rw [upd_same]
            rfl
          · exact ((Adv.refl _ _).setT (by simp)).setT (by simp)
    · rintro σ' H1 ⟨c, k, v2, v3, rfl, h1, hc, hk, a⟩
      refine ⟨_, rfl, s, _, 1, _, rfl, rfl, SqL.of h1, at1 c k, .inl ⟨c, rfl, _, rfl, c, many, rfl, rfl, hm, ?_⟩⟩
      refine ⟨_, rfl, s, _, 1, _, rfl, rfl, SqL.of h1, at1 c k, _, rfl, c, many, rfl, rfl, ⟨hm, hm2⟩, ?_⟩
      refine ⟨_, rfl, s, _, 1, 1, rfl, rfl, h1, rfl, ?_⟩
      refine ⟨_, rfl, ?_⟩
      have hl1 : H1 l = some (.lst (ns.map V.int)) := a _ _ (by simpa using nls) hl
      refine q _ _ (Int.emod_nonneg _ (Int.ne_of_gt hm)) (Int.emod_lt_of_pos _ hm) ⟨l, ns, c / many, k, upd_same, by rw [upd_ne nls]; exact hl1, Int.ediv_nonneg hc (Int.le_of_lt hm), hk, hlM⟩ ?_
      exact a.setT (by simp)
/-! ### _law_pick: out of a list, out of a tuple -/
def spPick : Sp := fun vs H Q _ => ∃ (s r : Addr) (xs : List V) (M : List Addr), vs = [.ref s, .ref r] ∧ StrAt M H s ∧ (H r = some (.lst xs) ∨ H r = some (.tup xs)) ∧ r ≠ s ∧ xs ≠ [] ∧ xs.length < 1073741824 ∧
  ∀ x H', x ∈ xs → StrAt M H' s → Adv [s] H H' → Q x H'
theorem ok_law_pick (A : All K mg w) : FnOk P w K mg base CX0 2 A.law_pick.f A.law_pick.fd ["stream", "rows"] spPick := by
  refine A.law_pick.F.ok sc_law_pick (fun vs H Q E h => ?_) (fun cdv Ar outer s H vs Q E hr h => ?_)
  · obtain ⟨s, r, xs, M, rfl, _⟩ := h
    rfl
  · obtain ⟨s, r, xs, M, rfl, hs, hx, nrs, hne, hl, q⟩ := h
    refine ⟨_, pss_one (ps_ret (pe_ix (ix_or ix_list ix_tup) (pv 1) (pe_call (ok_law_next A) (hr.mono (by decide)) rfl A.law_next.m A.law_next.F.kp A.law_next.b .nil pass0 (pa_cons (pv 0) (pa_cons (pe_callB call_len_seq (by rfl) A.T.len PySem.boot_len (pa_cons (pv 1) pa_nil)) pa_nil))) (fun _ _ => rfl))), ?_⟩
    have hpos : 0 < xs.length := List.length_pos_iff.mpr hne
    refine ⟨_, rfl, _, rfl, _, rfl, r, xs, rfl, ?_, s, _, M, rfl, hs, by omega, by omega, fun d H' h0 h1 hs' a => ?_⟩
    · rcases hx with h | h
      · exact .inl (SqL.of h)
      · exact .inr (SqT.of h)
    · obtain ⟨j, rfl⟩ : ∃ j : Nat, d = (j : Int) := ⟨d.toNat, by omega⟩
      have hj : j < xs.length := by omega
      have hg : xs[j]? = some xs[j] := List.getElem?_eq_getElem hj
      have nm : r ∉ [s] := by simpa using nrs
      rcases hx with h | h
      · exact .inl ⟨r, xs, j, xs[j], rfl, rfl, SqL.of (a _ _ nm h), atI_nat hg, q _ _ (List.getElem_mem hj) hs' a⟩
      · exact .inr ⟨r, xs, j, xs[j], rfl, rfl, SqT.of (a _ _ nm h), atI_nat hg, q _ _ (List.getElem_mem hj) hs' a⟩
/-! ### _law_from -/
def spFrom : Sp := fun vs H Q _ => ∃ (s : Addr) (lo hi : Int) (M : List Addr), vs = [.ref s, .int lo, .int hi] ∧ StrAt M H s ∧ lo ≤ hi ∧ hi - lo < 1073741823 ∧
  ∀ d H', lo ≤ d → d ≤ hi → StrAt M H' s → Adv [s] H H' → Q (.int d) H'
theorem ok_law_from (A : All K mg w) : FnOk P w K mg base CX0 2 A.law_from.f A.law_from.fd ["stream", "low", "high"] spFrom := by
  refine A.law_from.F.ok sc_law_from (fun vs H Q E h => ?_) (fun cdv Ar outer s H vs Q E hr h => ?_)
  · obtain ⟨s, lo, hi, M, rfl, _⟩ := h
    rfl
  · obtain ⟨s, lo, hi, M, rfl, hs, h1, h2, q⟩ := h
    refine ⟨_, pss_one (ps_ret (pe_op op_add (pv 1) (pe_call (ok_law_next A) (hr.mono (by decide)) rfl A.law_next.m A.law_next.F.kp A.law_next.b .nil pass0 (pa_cons (pv 0) (pa_cons (pe_op op_add (pe_op op_sub (pv 2) (pv 1)) pe_int) pa_nil))))), ?_⟩
    refine ⟨_, rfl, _, rfl, _, rfl, _, rfl, hi, lo, rfl, rfl, _, _, rfl, rfl, s, _, M, rfl, hs, by omega, by omega, fun d H' h0 h1 hs' a => ?_⟩
    exact ⟨lo, d, rfl, rfl, q _ _ (by omega) (by omega) hs' a⟩
end
end K60

set_option Elab.async false
set_option linter.all false
set_option maxRecDepth 100000
set_option maxHeartbeats 4000000
namespace K60
open PySem PySem.Spec PyProof.Rows L2 LL
open C8 (pss_cut)
section
variable [KW]
variable {P : Program} {w : World} {K : PySem.W.Frag} {mg : Str → Option Value} {base : Heap}
/-! ### is_integer, is_between -/
def spIsInteger : Sp := fun vs H Q _ => ∃ (v : V) (d : PyData), vs = [v] ∧ Is [] H d v ∧ Q (.bl (kitD d "int" && !kitD d "bool")) H
theorem ok_is_integer (A : All K mg w) : FnOk P w K mg base CX0 1 A.is_integer.f A.is_integer.fd ["value"] spIsInteger := by
  refine A.is_integer.F.ok sc_is_integer (fun vs H Q E h => ?_) (fun cdv Ar outer s H vs Q E hr h => ?_)
  · obtain ⟨v, d, rfl, _⟩ := h
    rfl
  · obtain ⟨v, d, rfl, hv, q⟩ := h
    refine ⟨_, (pss_one (ps_ret (pe_and (pe_callB call_isi (by rfl) A.T.isinstance (by decide +kernel) (pa_cons (pv 0) (pa_cons (pe_bltn (v := .ty "int") (by rfl) A.T.int (by decide +kernel) rfl) pa_nil))) (pe_one (pe_not (pe_callB call_isi (by rfl) A.T.isinstance (by decide +kernel) (pa_cons (pv 0) (pa_cons (pe_bltn (v := .ty "bool") (by rfl) A.T.bool (by decide +kernel) rfl) pa_nil)))))))), ?_⟩
    refine ⟨_, rfl, _, _, _, _, _, rfl, .ty _, hv.ty A.W, k_int d, _, rfl, iteB (fun e => ?_) (fun e => ?_)⟩
    · refine ⟨_, rfl, _, _, _, _, _, rfl, .ty _, hv.ty A.W, k_bool d, _, rfl, ?_⟩
      rw [e, Bool.true_and] at q
      exact q
    · rw [e, Bool.false_and] at q
      exact q
theorem isNum_of (d : PyData) (lo hi : Int) : (if (kitD d "int" && !kitD d "bool") = true then isNum lo hi d else false) = isNum lo hi d := by
  cases d <;> simp [kitD, isNum, tyN]
def spIsBetween : Sp := fun vs H Q _ => ∃ (v : V) (d : PyData) (lo hi : Int), vs = [v, .int lo, .int hi] ∧ Is [] H d v ∧ Q (.bl (isNum lo hi d)) H
theorem ok_is_between (A : All K mg w) : FnOk P w K mg base CX0 2 A.is_between.f A.is_between.fd ["value", "low", "high"] spIsBetween := by
  refine A.is_between.F.ok sc_is_between (fun vs H Q E h => ?_) (fun cdv Ar outer s H vs Q E hr h => ?_)
  · obtain ⟨v, d, lo, hi, rfl, _⟩ := h
    rfl
  · obtain ⟨v, d, lo, hi, rfl, hv, q⟩ := h
    refine ⟨_, (pss_one (ps_ret (pe_and (pe_call (ok_is_integer A) (hr.mono (by decide)) rfl A.is_integer.m A.is_integer.F.kp A.is_integer.b .nil pass0 (pa_cons (pv 0) pa_nil)) (pe_one (pe_chain op_le op_le (pv 1) (pv 0) (pv 2)))))), ?_⟩
    rw [← isNum_of] at q
    refine ⟨_, rfl, v, d, rfl, hv, _, rfl, iteB (fun e => ?_) (fun e => ?_)⟩
    · rw [if_pos e] at q
      cases d with
      | int i =>
        cases hv.intE
        refine ⟨_, rfl, _, rfl, lo, i, rfl, rfl, _, rfl, iteB (fun e1 => ?_) (fun e1 => ?_)⟩
        · refine ⟨_, rfl, i, hi, rfl, rfl, ?_⟩
          have q' : Q (.bl (decide (lo ≤ i) && decide (i ≤ hi))) H := q
          rw [e1, Bool.true_and] at q'
          exact q'
        · have q' : Q (.bl (decide (lo ≤ i) && decide (i ≤ hi))) H := q
          rw [e1, Bool.false_and] at q'
          exact q'
      | _ => simp [kitD, tyN] at e
    · rw [if_neg (by rw [e]; decide)] at q
      exact q
/-! ### _law_number -/
theorem ok_law_number (A : All K mg w) : FnOk P w K mg base CX0 1 A.law_number.f A.law_number.fd ["value", "low", "high"] spIsBetween := by
  refine A.law_number.F.ok sc_law_number (fun vs H Q E h => ?_) (fun cdv Ar outer s H vs Q E hr h => ?_)
  · obtain ⟨v, d, lo, hi, rfl, _⟩ := h
    rfl
  · obtain ⟨v, d, lo, hi', rfl, hv, q⟩ := h
    refine ⟨_, (pss_cons (ps_if (PW.pt (pw_or (pt_not (pt_val (pe_callB call_isi (by rfl) A.T.isinstance (by decide +kernel) (pa_cons (pv 0) (pa_cons (pe_bltn (v := .ty "int") (by rfl) A.T.int (by decide +kernel) rfl) pa_nil))))) (pw_or1 (pt_val (pe_callB call_isi (by rfl) A.T.isinstance (by decide +kernel) (pa_cons (pv 0) (pa_cons (pe_bltn (v := .ty "bool") (by rfl) A.T.bool (by decide +kernel) rfl) pa_nil)))))))
    (pss_one (ps_ret pe_bl))
    pss_nil)
  (pss_one (ps_ret (pe_and (pe_cmpR op_le (pv 1) (pv 0) (nomark _)) (pe_one (pe_cmpR op_le (pv 0) (pv 2) (nomark _))))))), ?_⟩
    rw [← isNum_of] at q
    refine ⟨_, rfl, _, _, _, _, _, rfl, .ty _, hv.ty A.W, k_int d, _, rfl, ?_⟩
    cases hi : kitD d "int" with
    | false =>
      refine iteY rfl ?_
      rw [hi] at q
      exact q
    | true =>
      refine iteN rfl ?_
      refine ⟨_, rfl, _, _, _, _, _, rfl, .ty _, hv.ty A.W, k_bool d, _, rfl, ?_⟩
      cases hb : kitD d "bool" with
      | true =>
        refine iteY rfl ?_
        rw [hi, hb] at q
        exact q
      | false =>
        refine iteN rfl ?_
        rw [hi, hb] at q
        cases d with
        | int i =>
          cases hv.intE
          refine ⟨_, rfl, _, rfl, lo, i, rfl, rfl, _, rfl, iteB (fun e1 => ?_) (fun e1 => ?_)⟩
          · refine ⟨_, rfl, _, rfl, i, hi', rfl, rfl, ?_⟩
            have q' : Q (.bl (decide (lo ≤ i) && decide (i ≤ hi'))) H := q
            rw [e1, Bool.true_and] at q'
            exact q'
          · have q' : Q (.bl (decide (lo ≤ i) && decide (i ≤ hi'))) H := q
            rw [e1, Bool.false_and] at q'
            exact q'
        | _ => simp [kitD, tyN] at hi hb
/-! ### is_boxed, _law_is_boxed, check_logic of a right logic -/
def logicB (x : Str) : Bool := x = "k" || x = "s4" || x = "gl"
def logicOk (x : Str) : Bool := x = "classical" || x = "intuit" || x = "k" || x = "s4" || x = "gl"
theorem inV_strs (x : Str) (ws : List Str) : inV (.str x) (ws.map V.str) = ws.any fun y => decide (x = y) := by
  unfold inV
  rw [List.any_map]
  congr 1
  funext y
  show (y == x) = decide (x = y)
  by_cases h : x = y
  · subst h; simp
  · have h2 : ¬ y = x := fun z => h z.symm
    simp [h, h2]
def spIsBoxed : Sp := fun vs H Q _ => ∃ (x : Str), vs = [.str x] ∧ ∀ H', Adv [] H H' → Q (.bl (logicB x)) H'
theorem ok_is_boxed (A : All K mg w) : FnOk P w K mg base CX0 1 A.is_boxed.f A.is_boxed.fd ["logic"] spIsBoxed := by
  refine A.is_boxed.F.ok sc_is_boxed (fun vs H Q E h => ?_) (fun cdv Ar outer s H vs Q E hr h => ?_)
  · obtain ⟨x, rfl, _⟩ := h
    rfl
  · obtain ⟨x, rfl, q⟩ := h
    obtain ⟨a, ma, ha⟩ := A.C.modal
    refine ⟨_, (pss_one (ps_ret (pe_cmpR op_in_seq (pv 0) (pe_glob (v := .ref a) rfl ma rfl) rfl))), ?_⟩
    refine ⟨_, rfl, a, _, rfl, .inr (ha H), rfl, by decide, ?_⟩
    have e : inV (.str x) [.str "k", .str "s4", .str "gl"] = logicB x := (inV_strs x ["k", "s4", "gl"]).trans (by simp [logicB, Bool.or_assoc])
    rw [if_neg Bool.false_ne_true, e]
    exact q H (Adv.refl _ _)
end
end K60

set_option Elab.async false
set_option linter.all false
set_option maxRecDepth 100000
set_option maxHeartbeats 4000000
namespace K60
open PySem PySem.Spec PyProof.Rows L2 LL
open C8 (pss_cut)
theorem cut_from1 (xs : List V) : cutV xs (some 1) none = xs.drop 1 := by
  unfold cutV
  rw [show HT.sIx xs.length 0 (some 1) = min 1 xs.length from HT.sIx_nat xs.length 0 1, HT.sIx_none]
  cases xs with
  | nil => rfl
  | cons x r =>
    have e : min 1 (x :: r).length = 1 := by rw [List.length_cons]; omega
    rw [e]
    simp
theorem all_id (bs : List Bool) (f : PyData → Bool) (ds : List PyData) (h : bs = ds.map f) : bs.all id = ds.all f := by
  rw [h, List.all_map]
  rfl
section
variable [KW]
variable {P : Program} {w : World} {K : PySem.W.Frag} {mg : Str → Option Value} {base : Heap}
def spIsNode : Sp := fun vs H Q _ => ∃ (v : V) (d : PyData) (row : Int) (boxed : Bool), vs = [v, .int row, .bl boxed] ∧ Is [] H d v ∧ ∀ H', Adv [] H H' → Q (.bl (nodeB boxed row d)) H'
theorem ok_is_node (A : All K mg w) : FnOk P w K mg base CX0 3 A.is_node.f A.is_node.fd ["value", "row", "boxed"] spIsNode := by
  refine A.is_node.F.ok sc_is_node (fun vs H Q E h => ?_) (fun cdv Ar outer s H vs Q E hr h => ?_)
  · obtain ⟨v, d, row, boxed, rfl, _⟩ := h
    rfl
  · obtain ⟨v, d, row, boxed, rfl, hv, q⟩ := h
    obtain ⟨tL, mL⟩ := A.C.last
    obtain ⟨ai, es, n, mi, KD, hi⟩ := A.C.items
    refine ⟨_, (pss_cons (ps_if (PW.pt (pw_or (pt_not (pt_val (pe_callB call_isi (by rfl) A.T.isinstance (by decide +kernel) (pa_cons (pv 0) (pa_cons (pe_bltn (v := .ty "tuple") (by rfl) A.T.tuple (by decide +kernel) rfl) pa_nil))))) (pw_or (pt_cmpR op_eq (pe_callB call_len_seq (by rfl) A.T.len PySem.boot_len (pa_cons (pv 0) pa_nil)) pe_int (nomark _)) (pw_or1 (pt_not (pt_val (pe_callB call_isi (by rfl) A.T.isinstance (by decide +kernel) (pa_cons (pe_ix ix_tup (pv 0) pe_int (fun _ _ => rfl)) (pa_cons (pe_bltn (v := .ty "str") (by rfl) A.T.str (by decide +kernel) rfl) pa_nil)))))))))
    (pss_one (ps_ret pe_bl))
    pss_nil)
  (pss_cons (ps_set (i := 3) sc_is_node.nd rfl (Or.inl rfl) (pe_ix ix_tup (pv 0) pe_int (fun _ _ => rfl)))
  (pss_cons (ps_if (pt_cmpR op_ne (pe_kget (pe_glob (v := .ref ai) rfl mi rfl) (pv 3) ⟨rfl, rfl, rfl, rfl⟩) (pe_callB call_len_seq (by rfl) A.T.len PySem.boot_len (pa_cons (pv 0) pa_nil)) (nomark _))
    (pss_one (ps_ret pe_bl))
    pss_nil)
  (pss_cons (ps_if (pt_cmpR op_eq (pv 3) pe_str (nomark _))
    (pss_one (ps_ret (pe_call (ok_is_between A) (hr.mono (by omega)) rfl A.is_between.m A.is_between.F.kp A.is_between.b .nil pass0 (pa_cons (pe_ix ix_tup (pv 0) pe_int (fun _ _ => rfl)) (pa_cons pe_int (pa_cons (pe_glob (v := .int 7) rfl mL ⟨_, rfl⟩) pa_nil))))))
    pss_nil)
  (pss_cons (ps_if (PW.pt (pw_and (pt_cmpR op_eq (pv 3) pe_str (nomark _)) (pw_and1 (pt_not (pt_val (pv 2))))))
    (pss_one (ps_ret pe_bl))
    pss_nil)
  (pss_one (ps_ret (pe_callB (cr_all rfl) (by rfl) A.T.all (by decide +kernel) (pa_cons (pe_lc (own := [("part", 4)]) (g := gName 4) rfl sc_is_node.nd (pi_tup (pe_slice sl_tup (pv 0) (po_some pe_int) po_none)) (blkOk_by (own := [("part", 4)]) (N := ["value", "row", "boxed", "word", "part"]) (sc := defScope s_is_node) (by decide +kernel)) (fun _ _ _ _ _ => pg_name (i := 4) sc_is_node.nd rfl (Or.inl rfl)) (fun _ _ _ _ _ => pts_nil) (fun _ _ _ _ _ => (pe_call (ok_is_between A) (hr.mono (by omega)) rfl A.is_between.m A.is_between.F.kp A.is_between.b .nil pass0 (pa_cons (pv 4) (pa_cons pe_int (pa_cons (pe_op op_sub (pv 1) pe_int) pa_nil)))))) pa_nil))))))))), ?_⟩
    have no : ¬ (∃ ds, d = .tuple ds) → kitD d "tuple" = false ∧ nodeB boxed row d = false := fun h => by
      cases d with
      | tuple ds => exact absurd ⟨ds, rfl⟩ h
      | _ => exact ⟨by simp [kitD, tyN], rfl⟩
    refine ⟨_, rfl, _, _, _, _, _, rfl, .ty _, hv.ty A.W, k_tuple d, _, rfl, ?_⟩
    by_cases ht : ∃ ds, d = .tuple ds
    case neg =>
      obtain ⟨e1, e2⟩ := no ht
      refine iteY (by rw [e1]; rfl) (iteY rfl ?_)
      have q' := q H (Adv.refl _ _)
      rw [e2] at q'
      exact q'
    obtain ⟨ds, rfl⟩ := ht
    refine iteN (by simp [kitD, tyN]) ?_
    obtain ⟨a, vs, rfl, htp, hs⟩ := hv.tupE
    refine ⟨_, rfl, a, vs, rfl, .inr (htp.sq A.W), rfl, _, rfl, ?_⟩
    cases ds with
    | nil =>
      have e0 : vs = [] := by unfold IsDs at hs; exact hs
      subst e0
      exact iteY rfl (iteY rfl (q H (Adv.refl _ _)))
    | cons d0 ps =>
      have hlen := hs.len
      have hs' := hs
      unfold IsDs at hs
      obtain ⟨v0, rs, rfl, h0, hps⟩ := hs
      refine iteN (by simp [List.length_cons]; omega) ?_
      refine ⟨_, rfl, a, _, 0, v0, rfl, rfl, htp.sq A.W, atI_nat (j := 0) rfl, _, _, _, _, _, rfl, .ty _, h0.ty A.W, k_str d0, _, rfl, ?_⟩
      by_cases hw : ∃ w, d0 = .str w
      case neg =>
        have e1 : kitD d0 "str" = false := by
          cases d0 with
          | str x => exact absurd ⟨x, rfl⟩ hw
          | _ => simp [kitD, tyN]
        have e2 : nodeB boxed row (.tuple (d0 :: ps)) = false := by
          cases d0 with
          | str x => exact absurd ⟨x, rfl⟩ hw
          | _ => rfl
        refine iteY (by rw [e1]; rfl) ?_
        have q' := q H (Adv.refl _ _)
        rw [e2] at q'
        exact q'
      obtain ⟨wd, rfl⟩ := hw
      cases h0.strE
      refine iteN (by simp [kitD, tyN]) ?_
      -- word = value[0]
      refine ⟨_, rfl, a, _, 0, _, rfl, rfl, htp.sq A.W, atI_nat (j := 0) rfl, ?_⟩
      -- ITEMS.get(word) != len(value)
      obtain ⟨r, er, rr⟩ := hi wd
      refine ⟨ai, es, n, rfl, KD, _, rfl, wd, r, _, rfl, er, rr, _, rfl, a, _, rfl, .inr (htp.sq A.W), ?_, _, rfl, ?_⟩
      · cases nItems wd <;> rfl
      have hl2 : rs.length = ps.length := hps.len
      have hnode : nodeB boxed row (.tuple (.str wd :: ps)) = (if nItems wd = some (ps.length + 1) then (if wd = "letter" then ps.all (isNum 0 7) else if wd = "box" && !boxed then false else ps.all (isNum 0 (row - 1))) else false) := rfl
      rw [hnode] at q
      by_cases hn : nItems wd = some (ps.length + 1)
      case neg =>
        rw [if_neg hn] at q
        refine iteY ?_ (q H (Adv.refl _ _))
        cases en : nItems wd with
        | none => rfl
        | some k =>
          have hk : ¬ k = ps.length + 1 := fun z => hn (by rw [en, z])
          simp [hl2]
          omega
      rw [if_pos hn] at q
      refine iteN (by rw [hn]; simp [hl2]) ?_
      -- word == 'letter'
      refine ⟨_, rfl, rfl, _, rfl, ?_⟩
      by_cases hlet : wd = "letter"
      · subst hlet
        rw [if_pos rfl] at q
        refine iteY (by simp) ?_
        have h2 : ps.length = 1 := by
          have e : nItems "letter" = some 2 := by decide +kernel
          rw [e] at hn
          have := Option.some.inj hn
          omega
        obtain ⟨p, rfl⟩ : ∃ p, ps = [p] := List.length_eq_one_iff.mp h2
        unfold IsDs at hps
        obtain ⟨v1, r1, rfl, h1, hn1⟩ := hps
        refine ⟨_, rfl, a, _, 1, v1, rfl, rfl, htp.sq A.W, atI_nat (j := 1) rfl, v1, p, 0, 7, rfl, h1, ?_⟩
        have q' := q H (Adv.refl _ _)
        simpa using q'
      · rw [if_neg hlet] at q
        refine iteN (by simp [hlet]) ?_
        refine ⟨_, rfl, rfl, _, rfl, ?_⟩
        have go : (wd = "box" && !boxed) = false → tRet (tCB (rAll K) (tCons (tLc (iTup K (tSl (rSlT K) (tVar 0) (tPart (tC (.int 1))) tNoPart)) (gName 4) tYes (tCall spIsBetween [] E0 (tCons (tVar 4) (tCons (tC (.int 0)) (tCons (tOp (rI0 fun i j => .int (i - j)) (tVar 1) (tC (.int 1))) tNil)))) [4]) tNil)) { nx := fun _ H' => Q .non H', rt := Q } [some (.ref a), some (.int row), some (.bl boxed), some (.str wd), none] H := fun hb => by
          rw [if_neg (by rw [hb]; decide)] at q
          refine ⟨_, rfl, 1, rfl, a, _, rfl, htp.sq A.W, ?_, fun p np => ?_⟩
          · intro z
            have z1 := z.1
            rw [show HT.sIx (V.str wd :: rs).length 0 (some 1) = min 1 (V.str wd :: rs).length from HT.sIx_nat _ 0 1, List.length_cons] at z1
            omega
          · rw [cut_from1]
            refine ⟨p, rfl, ⟨_, SqT.of upd_same⟩, fun D nD => ?_⟩
            have aP : Adv [] H (upd H p (.tup rs)) := Adv.new np
            refine lc_mapT (K := K) (a := p) (xs := rs) (fun i => V.bl (isNum 0 (row - 1) (ps.getD i .none))) nD (SqT.of upd_same) ?_ ?_ ?_
            · have : ps.length ≤ 3 := by
                unfold nItems at hn
                repeat' (split at hn)
                all_goals first | (have := Option.some.inj hn; omega) | cases hn
              omega
            · intro i x H' acc R hx aH hD k
              have hip : i < ps.length := by rw [← hl2]; exact (List.getElem?_eq_some_iff.mp hx).1
              obtain ⟨dx, hdx, hisx⟩ := hps.getV hx
              have ed : ps.getD i .none = dx := by rw [List.getD_eq_getElem?_getD, hdx]; rfl
              refine ⟨rfl, x, rfl, _, rfl, row, 1, rfl, rfl, x, dx, 0, row - 1, rfl, (hisx.adv (aP.trans aH)), ?_⟩
              have k' := k H' hD aH
              rw [ed] at k'
              exact k'
            · intro H' aH hD
              refine ⟨D, ps.map (isNum 0 (row - 1)), rfl, .inl (.inl ?_), ?_⟩
              · rw [hD, hl2, range_map_list]
              · have q' := q H' (aP.trans aH)
                rw [all_id _ (isNum 0 (row - 1)) ps rfl]
                exact q'
        by_cases hbx : wd = "box"
        · subst hbx
          refine iteY (by simp) ⟨_, rfl, _, rfl, ?_⟩
          cases boxed with
          | true => exact iteN rfl (go (by simp))
          | false =>
            rw [if_pos (by simp)] at q
            exact iteY rfl (q H (Adv.refl _ _))
        · refine iteN (by simp [hbx]) ?_
          exact go (by simp [hbx])
end
end K60

set_option Elab.async false
set_option linter.all false
set_option maxRecDepth 100000
set_option maxHeartbeats 4000000
namespace K60
open PySem PySem.Spec PyProof.Rows L2 LL
open C8 (pss_cut)
theorem filt_none (f : PyData → Bool) (ps : List PyData) (n : Nat) (h : n = ps.length) (ys : Nat → V) : decide (V.int ((((List.range n).filter fun i => !f (ps.getD i .none)).map ys).length : Nat) = V.int 0) = ps.all f := by
  subst h
  rw [List.length_map]
  by_cases ha : ps.all f = true
  · rw [ha]
    have e : (List.range ps.length).filter (fun i => !f (ps.getD i .none)) = [] := by
      rw [List.filter_eq_nil_iff]
      intro i hi
      have hi' : i < ps.length := List.mem_range.mp hi
      have : f ps[i] = true := List.all_eq_true.mp ha _ (List.getElem_mem hi')
      simp [List.getD_eq_getElem?_getD, hi', this]
    rw [e]
    rfl
  · have hf : ps.all f = false := by simpa using ha
    rw [hf]
    have : ¬ ((List.range ps.length).filter (fun i => !f (ps.getD i .none))).length = 0 := fun z => by
      apply ha
      rw [List.all_eq_true]
      intro p hp
      obtain ⟨i, hi, rfl⟩ := List.getElem_of_mem hp
      have e0 := List.length_eq_zero_iff.mp z
      rw [List.filter_eq_nil_iff] at e0
      have := e0 i (List.mem_range.mpr hi)
      simpa [List.getD_eq_getElem?_getD, hi] using this
    simp only [decide_eq_false_iff_not]
    intro z
    have := V.int.inj z
    omega
def fiveB (x : Str) : Bool := x = "no" || x = "and" || x = "or" || x = "if" || x = "box"
theorem five_items {x : Str} (h : fiveB x = true) : nItems x = some (if x = "no" then 1 else if x = "box" then 2 else 3) := by
  unfold fiveB at h
  simp only [Bool.or_eq_true, decide_eq_true_eq] at h
  rcases h with (((rfl | rfl) | rfl) | rfl) | rfl <;> decide +kernel
theorem no_items {x : Str} (h : fiveB x = false) (hl : ¬ x = "letter") : nItems x = none := by
  unfold fiveB at h
  simp only [Bool.or_eq_false_iff, decide_eq_false_iff_not] at h
  obtain ⟨⟨⟨⟨h1, h2⟩, h3⟩, h4⟩, h5⟩ := h
  unfold nItems
  rw [if_neg hl, if_neg h1, if_neg h2, if_neg h3, if_neg h4, if_neg h5]
theorem val_items (x : Str) : (valV (mergeK [] [((Sum.inr "no" : Key), V.int 1), (Sum.inr "box", V.int 2)]) (Sum.inr x)).getD (V.int 3) = V.int ((if x = "no" then 1 else if x = "box" then 2 else 3 : Nat) : Int) := by
  have e : mergeK [] [((Sum.inr "no" : Key), V.int 1), (Sum.inr "box", V.int 2)] = [((Sum.inr "no" : Key), V.int 1), (Sum.inr "box", V.int 2)] := by decide +kernel
  rw [e]
  unfold valV
  rw [List.find?_cons, List.find?_cons, List.find?_nil]
  by_cases h1 : x = "no"
  · subst h1
    rw [if_pos rfl]
    have : decide ((Sum.inr ("no" : Str) : Key) = Sum.inr ("no" : Str)) = true := by decide +kernel
    rw [this]
    rfl
  · have n1 : decide (((Sum.inr "no" : Key)) = Sum.inr x) = false := decide_eq_false fun z => h1 (Sum.inr.inj z).symm
    rw [if_neg h1, n1]
    by_cases h2 : x = "box"
    · subst h2
      rw [if_pos rfl]
      have : decide ((Sum.inr ("box" : Str) : Key) = Sum.inr ("box" : Str)) = true := by decide +kernel
      rw [this]
      rfl
    · have n2 : decide (((Sum.inr "box" : Key)) = Sum.inr x) = false := decide_eq_false fun z => h2 (Sum.inr.inj z).symm
      rw [if_neg h2, n2]
      rfl
section
variable [KW]
variable {P : Program} {w : World} {K : PySem.W.Frag} {mg : Str → Option Value} {base : Heap}
theorem ok_law_is_node (A : All K mg w) : FnOk P w K mg base CX0 2 A.law_is_node.f A.law_is_node.fd ["value", "at", "boxed"] spIsNode := by
  refine A.law_is_node.F.ok sc_law_is_node (fun vs H Q E h => ?_) (fun cdv Ar outer s H vs Q E hr h => ?_)
  · obtain ⟨v, d, row, boxed, rfl, _⟩ := h
    rfl
  · obtain ⟨v, d, row, boxed, rfl, hv, q⟩ := h
    refine ⟨_, (pss_cons (ps_if (PW.pt (pw_or (pt_not (pt_val (pe_callB call_isi (by rfl) A.T.isinstance (by decide +kernel) (pa_cons (pv 0) (pa_cons (pe_bltn (v := .ty "tuple") (by rfl) A.T.tuple (by decide +kernel) rfl) pa_nil))))) (pw_or (pt_cmpR op_eq (pe_callB call_len_seq (by rfl) A.T.len PySem.boot_len (pa_cons (pv 0) pa_nil)) pe_int (nomark _)) (pw_or1 (pt_not (pt_val (pe_callB call_isi (by rfl) A.T.isinstance (by decide +kernel) (pa_cons (pe_ix ix_tup (pv 0) pe_int (fun _ _ => rfl)) (pa_cons (pe_bltn (v := .ty "str") (by rfl) A.T.str (by decide +kernel) rfl) pa_nil)))))))))
    (pss_one (ps_ret pe_bl))
    pss_nil)
  (pss_cons (ps_set (i := 3) sc_law_is_node.nd rfl (Or.inl rfl) (pe_ix ix_tup (pv 0) pe_int (fun _ _ => rfl)))
  (pss_cons (ps_if (pt_cmpR op_eq (pv 3) pe_str (nomark _))
    (pss_one (ps_ret (pe_and (pe_cmpR op_eq (pe_callB call_len_seq (by rfl) A.T.len PySem.boot_len (pa_cons (pv 0) pa_nil)) pe_int (nomark _)) (pe_one (pe_call (ok_law_number A) (hr.mono (by omega)) rfl A.law_number.m A.law_number.F.kp A.law_number.b .nil pass0 (pa_cons (pe_ix ix_tup (pv 0) pe_int (fun _ _ => rfl)) (pa_cons pe_int (pa_cons pe_int pa_nil))))))))
    pss_nil)
  (pss_cons (ps_if (PW.pt (pw_or (pt_cmpR op_notIn_seq (pv 3) (pe_tup (pa_cons pe_str (pa_cons pe_str (pa_cons pe_str (pa_cons pe_str (pa_cons pe_str pa_nil)))))) rfl) (pw_or (PW.pt (pw_and (pt_cmpR op_eq (pv 3) pe_str (nomark _)) (pw_and1 (pt_not (pt_val (pv 2)))))) (pw_or1 (pt_cmpR op_ne (pe_callB call_len_seq (by rfl) A.T.len PySem.boot_len (pa_cons (pv 0) pa_nil)) (pe_dget2 (hu_of hr) (pe_disp (pps_cons pe_str pe_int (pps_cons pe_str pe_int pps_nil)) (by rfl) (by rfl) (fun z => by cases z) (by decide)) (pv 3) pe_int ⟨rfl, rfl, rfl, rfl⟩) (nomark _))))))
    (pss_one (ps_ret pe_bl))
    pss_nil)
  (pss_one (ps_ret (pe_cmpR op_eq (pe_callB call_len_seq (by rfl) A.T.len PySem.boot_len (pa_cons (pe_lc (own := [("part", 4)]) (g := gName 4) rfl sc_law_is_node.nd (pi_tup (pe_slice sl_tup (pv 0) (po_some pe_int) po_none)) (blkOk_by (own := [("part", 4)]) (N := ["value", "at", "boxed", "word", "part"]) (sc := defScope s_law_is_node) (by decide +kernel)) (fun _ _ _ _ _ => pg_name (i := 4) sc_law_is_node.nd rfl (Or.inl rfl)) (fun _ _ _ _ _ => pts_one (pt_not (pt_val (pe_call (ok_law_number A) (hr.mono (by omega)) rfl A.law_number.m A.law_number.F.kp A.law_number.b .nil pass0 (pa_cons (pv 4) (pa_cons pe_int (pa_cons (pe_op op_sub (pv 1) pe_int) pa_nil))))))) (fun _ _ _ _ _ => (pv 4))) pa_nil)) pe_int (nomark _)))))))), ?_⟩
    have no : ¬ (∃ ds, d = .tuple ds) → kitD d "tuple" = false ∧ nodeB boxed row d = false := fun h => by
      cases d with
      | tuple ds => exact absurd ⟨ds, rfl⟩ h
      | _ => exact ⟨by simp [kitD, tyN], rfl⟩
    refine ⟨_, rfl, _, _, _, _, _, rfl, .ty _, hv.ty A.W, k_tuple d, _, rfl, ?_⟩
    by_cases ht : ∃ ds, d = .tuple ds
    case neg =>
      obtain ⟨e1, e2⟩ := no ht
      refine iteY (by rw [e1]; rfl) (iteY rfl ?_)
      have q' := q H (Adv.refl _ _)
      rw [e2] at q'
      exact q'
    obtain ⟨ds, rfl⟩ := ht
    refine iteN (by simp [kitD, tyN]) ?_
    obtain ⟨a, vs, rfl, htp, hs⟩ := hv.tupE
    refine ⟨_, rfl, a, vs, rfl, .inr (htp.sq A.W), rfl, _, rfl, ?_⟩
    cases ds with
    | nil =>
      have e0 : vs = [] := by unfold IsDs at hs; exact hs
      subst e0
      exact iteY rfl (iteY rfl (q H (Adv.refl _ _)))
    | cons d0 ps =>
      have hlen := hs.len
      unfold IsDs at hs
      obtain ⟨v0, rs, rfl, h0, hps⟩ := hs
      refine iteN (by simp [List.length_cons]; omega) ?_
      refine ⟨_, rfl, a, _, 0, v0, rfl, rfl, htp.sq A.W, atI_nat (j := 0) rfl, _, _, _, _, _, rfl, .ty _, h0.ty A.W, k_str d0, _, rfl, ?_⟩
      by_cases hw : ∃ w, d0 = .str w
      case neg =>
        have e1 : kitD d0 "str" = false := by
          cases d0 with
          | str x => exact absurd ⟨x, rfl⟩ hw
          | _ => simp [kitD, tyN]
        have e2 : nodeB boxed row (.tuple (d0 :: ps)) = false := by
          cases d0 with
          | str x => exact absurd ⟨x, rfl⟩ hw
          | _ => rfl
        refine iteY (by rw [e1]; rfl) ?_
        have q' := q H (Adv.refl _ _)
        rw [e2] at q'
        exact q'
      obtain ⟨wd, rfl⟩ := hw
      cases h0.strE
      refine iteN (by simp [kitD, tyN]) ?_
      refine ⟨_, rfl, a, _, 0, _, rfl, rfl, htp.sq A.W, atI_nat (j := 0) rfl, ?_⟩
      have hl2 : rs.length = ps.length := hps.len
      have hnode : nodeB boxed row (.tuple (.str wd :: ps)) = (if nItems wd = some (ps.length + 1) then (if wd = "letter" then ps.all (isNum 0 7) else if wd = "box" && !boxed then false else ps.all (isNum 0 (row - 1))) else false) := rfl
      rw [hnode] at q
      -- word == "letter"
      refine ⟨_, rfl, rfl, _, rfl, ?_⟩
      by_cases hlet : wd = "letter"
      · subst hlet
        refine iteY (by simp) ?_
        have e : nItems "letter" = some 2 := by decide +kernel
        rw [e, if_pos rfl] at q
        refine ⟨_, rfl, a, _, rfl, .inr (htp.sq A.W), rfl, _, rfl, ?_⟩
        by_cases h2 : ps.length = 1
        · rw [if_pos (by rw [h2])] at q
          refine iteY (by simp [hl2, h2]) ?_
          obtain ⟨p, rfl⟩ : ∃ p, ps = [p] := List.length_eq_one_iff.mp h2
          unfold IsDs at hps
          obtain ⟨v1, r1, rfl, h1, hn1⟩ := hps
          refine ⟨_, rfl, a, _, 1, v1, rfl, rfl, htp.sq A.W, atI_nat (j := 1) rfl, v1, p, 0, 7, rfl, h1, ?_⟩
          have q' := q H (Adv.refl _ _)
          simpa using q'
        · rw [if_neg (fun z => h2 (by have := Option.some.inj z; omega))] at q
          exact iteN (by simp [hl2]; omega) (q H (Adv.refl _ _))
      rw [if_neg hlet] at q
      refine iteN (by simp [hlet]) ?_
      -- word not in the five
      refine ⟨_, rfl, by show 5 ≤ sizeLine; decide, fun p np => ⟨p, _, rfl, .inr (SqT.of upd_same), rfl, by decide, _, rfl, ?_⟩⟩
      have a1 : Adv [] H (upd H p (.tup [.str "no", .str "and", .str "or", .str "if", .str "box"])) := Adv.new np
      have e5 : inV (.str wd) [.str "no", .str "and", .str "or", .str "if", .str "box"] = fiveB wd := (inV_strs wd ["no", "and", "or", "if", "box"]).trans (by simp [fiveB, Bool.or_assoc])
      rw [if_pos (rfl : true = true), e5]
      cases h5 : fiveB wd with
      | false =>
        rw [no_items h5 hlet] at q
        exact iteY rfl (iteY rfl (q _ a1))
      | true =>
        rw [five_items h5] at q
        refine iteN rfl ?_
        refine ⟨_, rfl, rfl, _, rfl, ?_⟩
        have fals : (if some (if wd = "no" then 1 else if wd = "box" then 2 else 3) = some (ps.length + 1) then (if wd = "box" && !boxed then false else ps.all (isNum 0 (row - 1))) else false) = false → ∀ H', Adv [] H H' → Q (.bl false) H' := fun e H' a' => by
          have q' := q H' a'
          rw [e] at q'
          exact q'
        have go : (wd = "box" && !boxed) = false → ∀ H2, Adv [] H H2 → tSeq (tIfS (tTest (tOp rNe (tCB (fun xs H Q => ∃ p ys, xs = [.ref p] ∧ (SqL K H p ys ∨ SqT K H p ys) ∧ Q (.int ys.length) H) (tCons (tVar 0) tNil)) (tDGet2 (tDisp [(tC (.str "no"), tC (.int 1)), (tC (.str "box"), tC (.int 2))]) (tVar 3) (tC (.int 3))))) (tRet (tC (.bl false))) tNext)
            (tRet (tOp rEq (tCB (fun xs H Q => ∃ p ys, xs = [.ref p] ∧ (SqL K H p ys ∨ SqT K H p ys) ∧ Q (.int ys.length) H) (tCons (tLc (iTup K (tSl (rSlT K) (tVar 0) (tPart (tC (.int 1))) tNoPart)) (gName 4) (tNot (tB (tCall spIsBetween [] E0 (tCons (tVar 4) (tCons (tC (.int 0)) (tCons (tOp (rI0 fun i j => .int (i - j)) (tVar 1) (tC (.int 1))) tNil)))))) (tVar 4) [4]) tNil)) (tC (.int 0))))
            { nx := fun _ H' => Q .non H', rt := Q } [some (.ref a), some (.int row), some (.bl boxed), some (.str wd), none] H2 := fun hb H2 a2 => by
          have ha2 := htp.adv a2
          refine ⟨_, rfl, a, _, rfl, .inr (ha2.sq A.W), fun p2 np2 => ?_⟩
          refine ⟨upd_same, [((Sum.inr "no" : Key), V.int 1), (Sum.inr "box", V.int 2)], rfl, by decide, p2, rfl, .inl ⟨_, .inl upd_same⟩, _, rfl, _, DGet.k (k := Sum.inr wd) upd_same, ?_⟩
          rw [val_items]
          rw [upd_upd]
          have a3 : Adv [] H (upd H2 p2 (.dK (mergeK [] [((Sum.inr "no" : Key), V.int 1), (Sum.inr "box", V.int 2)]))) := a2.trans (Adv.new np2)
          refine ⟨rfl, _, rfl, ?_⟩
          by_cases hk : (if wd = "no" then 1 else if wd = "box" then 2 else 3) = ps.length + 1
          case neg =>
            refine iteY ?_ (fals (by rw [if_neg (fun z => hk (Option.some.inj z))]) _ a3)
            have : ¬ (V.int (((V.str wd :: rs).length : Nat) : Int) = V.int ((if wd = "no" then 1 else if wd = "box" then 2 else 3 : Nat) : Int)) := fun z => hk (by
              have z' := V.int.inj z
              rw [List.length_cons, hl2] at z'
              omega)
            rw [decide_eq_false this]
            rfl
          rw [if_pos (by rw [hk]), if_neg (by rw [hb]; decide)] at q
          refine iteN ?_ ?_
          · rw [hk, List.length_cons, hl2]
            simp
          have ha3 := htp.adv a3
          refine ⟨_, rfl, 1, rfl, a, _, rfl, ha3.sq A.W, ?_, fun p4 np4 => ?_⟩
          · intro z
            have z1 := z.1
            rw [show HT.sIx (V.str wd :: rs).length 0 (some 1) = min 1 (V.str wd :: rs).length from HT.sIx_nat _ 0 1, List.length_cons] at z1
            omega
          · rw [cut_from1]
            refine ⟨p4, rfl, ⟨_, SqT.of upd_same⟩, fun D nD => ?_⟩
            have aP := a3.trans (Adv.new (M := []) (o := .tup ((V.str wd :: rs).drop 1)) np4)
            refine lc_filtT (K := K) (a := p4) (xs := rs) (fun i => rs.getD i .non) (fun i => !isNum 0 (row - 1) (ps.getD i .none)) nD (SqT.of upd_same) ?_ ?_ ?_
            · have : ps.length ≤ 3 := by
                split at hk
                · omega
                · split at hk <;> omega
              omega
            · intro i x H' acc R R0 hx aH hD k k0
              have hip : i < ps.length := by rw [← hl2]; exact (List.getElem?_eq_some_iff.mp hx).1
              obtain ⟨dx, hdx, hisx⟩ := hps.getV hx
              have ed : ps.getD i .none = dx := by rw [List.getD_eq_getElem?_getD, hdx]; rfl
              have ex : rs.getD i .non = x := by rw [List.getD_eq_getElem?_getD, hx]; rfl
              refine ⟨rfl, x, rfl, _, rfl, row, 1, rfl, rfl, x, dx, 0, row - 1, rfl, (hisx.adv (aP.trans aH)), _, rfl, ?_⟩
              rw [ed] at k k0
              refine iteB (fun e1 => ?_) (fun e1 => k0 e1 H' hD aH)
              refine ⟨x, rfl, ?_⟩
              have k' := k e1 H' hD aH
              rw [ex] at k'
              exact k'
            · intro H' aH hD
              refine ⟨D, _, rfl, .inl (SqL.of hD), rfl, ?_⟩
              rw [filt_none (isNum 0 (row - 1)) ps rs.length hl2]
              exact q H' (aP.trans aH)
        by_cases hbx : wd = "box"
        · subst hbx
          refine iteY (by simp) ⟨_, rfl, _, rfl, ?_⟩
          cases boxed with
          | true => exact iteN rfl (go (by simp) _ a1)
          | false => exact iteY rfl (iteY rfl (fals (by simp) _ a1))
        · refine iteN (by simp [hbx]) ?_
          exact go (by simp [hbx]) _ a1
end
end K60

set_option Elab.async false
set_option linter.all false
set_option maxRecDepth 100000
set_option maxHeartbeats 4000000
namespace K60
open PySem PySem.Spec PyProof.Rows L2 LL
open C8 (pss_cut)
def resV : Option Int → V
  | some i => .int i
  | none => .non
theorem wrongF_at {most : Int} {boxed : Bool} {ds : List PyData} {i : Nat} {d : PyData} {seen : List (List Key)} (h : ds[i]? = some d) :
    wrongF most boxed i seen (ds.drop i) = if (i : Int) < most then (if nodeB boxed i d then (if memK (keysD d) seen = true then some (i : Int) else wrongF most boxed ((i + 1 : Nat) : Int) (seen ++ [keysD d]) (ds.drop (i + 1))) else some (i : Int)) else some (i : Int) := by
  obtain ⟨hi, e⟩ := List.getElem?_eq_some_iff.mp h
  rw [List.drop_eq_getElem_cons hi, e]
  rfl
theorem wrongF_end {most : Int} {boxed : Bool} {ds : List PyData} {seen : List (List Key)} {i : Nat} (h : i = ds.length) : wrongF most boxed i seen (ds.drop i) = none := by
  rw [h, List.drop_length]
  rfl
section
variable [KW]
variable {P : Program} {w : World} {K : PySem.W.Frag} {mg : Str → Option Value} {base : Heap}
def spWrongRow : Sp := fun vs H Q _ => ∃ (v : V) (d : PyData) (most : Int) (boxed : Bool), vs = [v, .int most, .bl boxed] ∧ Is [] H d v ∧ 0 ≤ most ∧ (∀ ds, d = .list ds → ds.length ≤ 1000000) ∧ ∀ H', Adv [] H H' → Q (resV (wrongD most boxed d)) H'
theorem no_list {d : PyData} {most : Int} {boxed : Bool} (h : ¬ ∃ ds, d = .list ds) : kitD d "list" = false ∧ wrongD most boxed d = some (-1) := by
  cases d with
  | list ds => exact absurd ⟨ds, rfl⟩ h
  | _ => exact ⟨by simp [kitD, tyN], rfl⟩
theorem ok_wrong_row (A : All K mg w) : FnOk P w K mg base CX0 4 A.wrong_row.f A.wrong_row.fd ["value", "most", "boxed"] spWrongRow := by
  refine A.wrong_row.F.ok sc_wrong_row (fun vs H Q E h => ?_) (fun cdv Ar outer s H vs Q E hr h => ?_)
  · obtain ⟨v, d, most, boxed, rfl, _⟩ := h
    rfl
  · obtain ⟨v, d, most, boxed, rfl, hv, h0, hz, q⟩ := h
    refine ⟨_, (pss_cons (ps_if (pt_not (pt_val (pe_callB call_isi (by rfl) A.T.isinstance (by decide +kernel) (pa_cons (pv 0) (pa_cons (pe_bltn (v := .ty "list") (by rfl) A.T.list (by decide +kernel) rfl) pa_nil)))))
    (pss_one (ps_ret (pe_un un_neg pe_int)))
    pss_nil)
  (pss_cons (ps_set (i := 3) sc_wrong_row.nd rfl (Or.inl rfl) (pe_dnewX A.W))
  (pss_cons (ps_for PassesOwn.never rfl (pi_enum (by rfl) A.T.enumerate (pa_cons (pv 0) pa_nil)) (pg_tup rfl (pgs_cons (pg_name (i := 4) sc_wrong_row.nd rfl (Or.inl rfl)) (pgs_cons (pg_name (i := 5) sc_wrong_row.nd rfl (Or.inl rfl)) pgs_nil)))
    (pss_cons (ps_if (PW.pt (pw_or (pt_cmpR op_ge (pv 4) (pv 1) (nomark _)) (pw_or (pt_not (pt_val (pe_call (ok_is_node A) (hr.mono (by omega)) rfl A.is_node.m A.is_node.F.kp A.is_node.b .nil pass0 (pa_cons (pv 5) (pa_cons (pv 4) (pa_cons (pv 2) pa_nil)))))) (pw_or1 (pt_cmp (pc_dinX A.W (hu_of hr) (pv 5) (pv 3)))))))
    (pss_one (ps_ret (pv 4)))
    pss_nil)
  (pss_one (ps_dputX A.W (hu_of hr) (pv 3) (pv 5) pe_bl rfl))))
  (pss_one (ps_ret pe_non))))), ?_⟩
    refine ⟨_, rfl, _, _, _, _, _, rfl, .ty _, hv.ty A.W, k_list d, _, rfl, ?_⟩
    by_cases ht : ∃ ds, d = .list ds
    case neg =>
      obtain ⟨e1, e2⟩ := no_list (most := most) (boxed := boxed) ht
      refine iteY (by rw [e1]; rfl) ⟨1, rfl, ?_⟩
      have q' := q H (Adv.refl _ _)
      rw [e2] at q'
      exact q'
    obtain ⟨ds, rfl⟩ := ht
    refine iteN (by simp [kitD, tyN]) ?_
    obtain ⟨a, vs, rfl, na, ha, hs⟩ := hv.lstE
    have hl := hs.len
    have hsz := hz ds rfl
    intro d hd
    refine ⟨_, rfl, a, vs, rfl, SqL.of (by rw [upd_ne (ne_of_none ha hd)]; exact ha), ?_⟩
    refine for_enum (K := K) (a := a) (xs := vs) (fun i σ' H' => ∃ (v4 v5 : Option V) (kvs : List (List Key × V)), σ' = [some (.ref a), some (.int most), some (.bl boxed), some (.ref d), v4, v5] ∧ Adv [] H H' ∧ Tab [d] H' d kvs ∧ kvs.length ≤ i ∧ wrongF most boxed 0 [] ds = wrongF most boxed i (kvs.map (·.1)) (ds.drop i))
      ⟨none, none, [], rfl, Adv.new hd, Tab.new upd_same, Nat.le_refl _, rfl⟩ (fun i σ' H' _ ⟨_, _, _, _, a', _⟩ => a'.same _ _ ha) ?_ ?_
    · rintro i x T σ' H' hx ⟨v4, v5, kvs, rfl, a', hk, hkl, hw⟩ nT
      obtain ⟨dx, hdx, hisx⟩ := hs.getV hx
      rw [wrongF_at hdx] at hw
      have hi : i < ds.length := (List.getElem?_eq_some_iff.mp hdx).1
      refine ⟨T, _, rfl, SqT.of upd_same, rfl, _, _, rfl, _, _, rfl, rfl, ?_⟩
      have aT : Adv [] H (upd H' T (.tup [.int (i : Nat), x])) := a'.trans (Adv.new nT)
      have hkT : Tab [d] (upd H' T (.tup [.int (i : Nat), x])) d kvs := hk.same (Adv.new nT)
      refine ⟨_, rfl, _, rfl, (i : Int), most, rfl, rfl, _, rfl, ?_⟩
      by_cases hm : (i : Int) < most
      case neg =>
        rw [if_neg hm] at hw
        refine iteY (decide_eq_true (by omega)) (iteY rfl ⟨_, rfl, ?_⟩)
        have q' := q _ aT
        rw [show wrongD most boxed (.list ds) = wrongF most boxed 0 [] ds from rfl, hw] at q'
        exact q'
      rw [if_pos hm] at hw
      refine iteN (decide_eq_false (by omega)) ?_
      refine ⟨x, rfl, _, rfl, _, rfl, x, dx, (i : Int), boxed, rfl, hisx.adv aT, fun H3 a3 => ⟨_, rfl, ?_⟩⟩
      cases hn : nodeB boxed i dx with
      | false =>
        rw [if_neg (by rw [hn]; decide)] at hw
        refine iteY rfl (iteY rfl ⟨_, rfl, ?_⟩)
        have q' := q _ (aT.trans a3)
        rw [show wrongD most boxed (.list ds) = wrongF most boxed 0 [] ds from rfl, hw] at q'
        exact q'
      | true =>
        rw [if_pos hn] at hw
        refine iteN rfl ?_
        have hk3 := hkT.same a3
        obtain ⟨b, rfl, hb⟩ := node_keys ((hisx.fresh hd).adv ((aT.trans a3).more (by simp))) hn
        refine ⟨_, rfl, _, rfl, d, _, rfl, hk3.get A.W hb, _, rfl, ?_⟩
        rw [val_mem]
        cases hm2 : memK (keysD dx) (kvs.map (·.1)) with
        | true =>
          rw [if_pos hm2] at hw
          refine iteY rfl ⟨_, rfl, ?_⟩
          have q' := q _ (aT.trans a3)
          rw [show wrongD most boxed (.list ds) = wrongF most boxed 0 [] ds from rfl, hw] at q'
          exact q'
        | false =>
          rw [if_neg (by rw [hm2]; decide)] at hw
          refine iteN rfl ?_
          obtain ⟨o, hg, t2⟩ := hk3.putH A.W (by simp) hb (by rw [sizeLine_eq]; omega) (.bl true)
          refine ⟨_, rfl, _, rfl, d, _, rfl, hg, ?_⟩
          rw [put_new _ _ _ hm2] at t2
          refine ⟨_, _, _, rfl, (aT.trans a3).mut hd, t2, by rw [List.length_append, List.length_singleton]; omega, ?_⟩
          rw [hw, List.map_append]
          rfl
    · rintro σ' H' ⟨v4, v5, kvs, rfl, a', hk, hkl, hw⟩
      rw [wrongF_end hl] at hw
      have q' := q _ a'
      rw [show wrongD most boxed (.list ds) = wrongF most boxed 0 [] ds from rfl, hw] at q'
      exact q'
theorem ok_law_wrong_row (A : All K mg w) : FnOk P w K mg base CX0 3 A.law_wrong_row.f A.law_wrong_row.fd ["value", "most", "boxed"] spWrongRow := by
  refine A.law_wrong_row.F.ok sc_law_wrong_row (fun vs H Q E h => ?_) (fun cdv Ar outer s H vs Q E hr h => ?_)
  · obtain ⟨v, d, most, boxed, rfl, _⟩ := h
    rfl
  · obtain ⟨v, d, most, boxed, rfl, hv, h0, hz, q⟩ := h
    refine ⟨_, (pss_cons (ps_if (pt_not (pt_val (pe_callB call_isi (by rfl) A.T.isinstance (by decide +kernel) (pa_cons (pv 0) (pa_cons (pe_bltn (v := .ty "list") (by rfl) A.T.list (by decide +kernel) rfl) pa_nil)))))
    (pss_one (ps_ret (pe_un un_neg pe_int)))
    pss_nil)
  (pss_cons (ps_set (i := 3) sc_law_wrong_row.nd rfl (Or.inl rfl) (pe_dnewX A.W))
  (pss_cons (ps_for PassesOwn.never rfl (pi_range1 rfl A.T.range (pa_cons (pe_callB call_len_seq (by rfl) A.T.len PySem.boot_len (pa_cons (pv 0) pa_nil)) pa_nil)) (pg_name (i := 4) sc_law_wrong_row.nd rfl (Or.inl rfl))
    (pss_cons (ps_if (PW.pt (pw_or (pt_cmpR op_eq (pv 4) (pv 1) (nomark _)) (pw_or (pt_not (pt_val (pe_call (ok_law_is_node A) (hr.mono (by omega)) rfl A.law_is_node.m A.law_is_node.F.kp A.law_is_node.b .nil pass0 (pa_cons (pe_ix ix_list (pv 0) (pv 4) (fun _ _ => rfl)) (pa_cons (pv 4) (pa_cons (pv 2) pa_nil)))))) (pw_or1 (pt_cmp (pc_dinX A.W (hu_of hr) (pe_ix ix_list (pv 0) (pv 4) (fun _ _ => rfl)) (pv 3)))))))
    (pss_one (ps_ret (pv 4)))
    pss_nil)
  (pss_one (ps_dputX A.W (hu_of hr) (pv 3) (pe_ix ix_list (pv 0) (pv 4) (fun _ _ => rfl)) (pv 4) rfl))))
  (pss_one (ps_ret pe_non))))), ?_⟩
    refine ⟨_, rfl, _, _, _, _, _, rfl, .ty _, hv.ty A.W, k_list d, _, rfl, ?_⟩
    by_cases ht : ∃ ds, d = .list ds
    case neg =>
      obtain ⟨e1, e2⟩ := no_list (most := most) (boxed := boxed) ht
      refine iteY (by rw [e1]; rfl) ⟨1, rfl, ?_⟩
      have q' := q H (Adv.refl _ _)
      rw [e2] at q'
      exact q'
    obtain ⟨ds, rfl⟩ := ht
    refine iteN (by simp [kitD, tyN]) ?_
    obtain ⟨a, vs, rfl, na, ha, hs⟩ := hv.lstE
    have hl := hs.len
    have hsz := hz ds rfl
    intro d hd
    have had : (upd H d (dxo d [])) a = some (.lst vs) := by rw [upd_ne (ne_of_none ha hd)]; exact ha
    refine ⟨_, rfl, a, vs, rfl, .inl (SqL.of had), _, rfl, by omega, by omega, ?_⟩
    refine for_range (lo := 0) (n := (vs.length : Int).toNat) (fun i σ' H' => ∃ (v4 : Option V) (kvs : List (List Key × V)), σ' = [some (.ref a), some (.int most), some (.bl boxed), some (.ref d), v4] ∧ Adv [] H H' ∧ Tab [d] H' d kvs ∧ kvs.length ≤ i ∧ (i : Int) ≤ most ∧ wrongF most boxed 0 [] ds = wrongF most boxed i (kvs.map (·.1)) (ds.drop i))
      ⟨none, [], rfl, Adv.new hd, Tab.new upd_same, Nat.le_refl _, h0, rfl⟩ ?_ ?_
    · rintro i σ' H' hi ⟨v4, kvs, rfl, a', hk, hkl, him, hw⟩
      have hi2 : i < vs.length := by omega
      obtain ⟨dx, hdx, hisx⟩ := hs.getV (List.getElem?_eq_getElem hi2)
      rw [wrongF_at hdx] at hw
      have ha' := a'.same _ _ ha
      have e0 : (0 : Int) + (i : Int) = (i : Int) := by omega
      rw [e0]
      refine ⟨_, rfl, _, rfl, rfl, _, rfl, ?_⟩
      by_cases hm : (i : Int) < most
      case neg =>
        rw [if_neg hm] at hw
        have e1 : (i : Int) = most := by omega
        refine iteY (by rw [e1]; simp) (iteY rfl ⟨_, rfl, ?_⟩)
        have q' := q _ a'
        rw [show wrongD most boxed (.list ds) = wrongF most boxed 0 [] ds from rfl, hw] at q'
        exact q'
      rw [if_pos hm] at hw
      have ne1 : ¬ (i : Int) = most := by omega
      refine iteN (by simp [ne1]) ?_
      refine ⟨_, rfl, _, rfl, a, vs, (i : Int), _, rfl, rfl, SqL.of ha', atI_nat (List.getElem?_eq_getElem hi2), _, rfl, _, rfl, _, dx, (i : Int), boxed, rfl, hisx.adv a', fun H3 a3 => ⟨_, rfl, ?_⟩⟩
      cases hn : nodeB boxed i dx with
      | false =>
        rw [if_neg (by rw [hn]; decide)] at hw
        refine iteY rfl (iteY rfl ⟨_, rfl, ?_⟩)
        have q' := q _ (a'.trans a3)
        rw [show wrongD most boxed (.list ds) = wrongF most boxed 0 [] ds from rfl, hw] at q'
        exact q'
      | true =>
        rw [if_pos hn] at hw
        refine iteN rfl ?_
        have hk3 := hk.same a3
        have ha3 := a3.same _ _ ha'
        obtain ⟨b, eb, hb⟩ := node_keys ((hisx.fresh hd).adv ((a'.trans a3).more (by simp))) hn
        refine ⟨_, rfl, _, rfl, a, vs, (i : Int), _, rfl, rfl, SqL.of ha3, atI_nat (List.getElem?_eq_getElem hi2), ?_⟩
        rw [eb]
        refine ⟨_, rfl, d, _, rfl, hk3.get A.W hb, _, rfl, ?_⟩
        rw [val_mem]
        cases hm2 : memK (keysD dx) (kvs.map (·.1)) with
        | true =>
          rw [if_pos hm2] at hw
          refine iteY rfl ⟨_, rfl, ?_⟩
          have q' := q _ (a'.trans a3)
          rw [show wrongD most boxed (.list ds) = wrongF most boxed 0 [] ds from rfl, hw] at q'
          exact q'
        | false =>
          rw [if_neg (by rw [hm2]; decide)] at hw
          refine iteN rfl ?_
          refine ⟨_, rfl, _, rfl, _, rfl, _, rfl, a, vs, (i : Int), _, rfl, rfl, SqL.of ha3, atI_nat (List.getElem?_eq_getElem hi2), ?_⟩
          rw [eb]
          obtain ⟨o, hg, t2⟩ := hk3.putH A.W (by simp) hb (by rw [sizeLine_eq]; omega) (.int (i : Nat))
          refine ⟨d, _, rfl, hg, ?_⟩
          rw [put_new _ _ _ hm2] at t2
          refine ⟨_, _, rfl, (a'.trans a3).mut hd, t2, by rw [List.length_append, List.length_singleton]; omega, by omega, ?_⟩
          rw [hw, List.map_append]
          rfl
    · rintro σ' H' ⟨v4, kvs, rfl, a', hk, hkl, him, hw⟩
      rw [wrongF_end (show (vs.length : Int).toNat = ds.length by omega)] at hw
      have q' := q _ a'
      rw [show wrongD most boxed (.list ds) = wrongF most boxed 0 [] ds from rfl, hw] at q'
      exact q'
end
end K60

set_option Elab.async false
set_option linter.all false
set_option maxRecDepth 100000
set_option maxHeartbeats 4000000
namespace K60
open PySem PySem.Spec PyProof.Rows L2 LL
open C8 (pss_cut)
def prD (d : PyData) : PyData := .tuple [d, d]
section
variable [KW]
variable {P : Program} {w : World} {K : PySem.W.Frag} {mg : Str → Option Value} {base : Heap}
def spSame : Sp := fun vs H Q _ => ∃ (v1 v2 : V) (d : PyData), vs = [v1, v2] ∧ Is [] H d v1 ∧ Is [] H d v2 ∧ sz d ≤ 1000000 ∧ ∀ H', Adv [] H H' → Q (.bl true) H'
theorem ok_law_same (A : All K mg w) : FnOk P w K mg base CX0 1 A.law_same.f A.law_same.fd ["actual", "due"] spSame := by
  refine A.law_same.F.ok sc_law_same (fun vs H Q E h => ?_) (fun cdv Ar outer s H vs Q E hr h => ?_)
  · obtain ⟨v1, v2, d, rfl, _⟩ := h
    rfl
  · obtain ⟨v1, v2, d0, rfl, h1, h2, hz, q⟩ := h
    refine ⟨_, (pss_cons (ps_set (i := 2) sc_law_same.nd rfl (Or.inl rfl) (pe_lst (pa_cons (pe_tup (pa_cons (pv 0) (pa_cons (pv 1) pa_nil))) pa_nil)))
  (pss_cons (ps_for PassesOwn.never rfl (pi_range1 rfl A.T.range (pa_cons pe_int pa_nil)) (pg_name (i := 3) sc_law_same.nd rfl (Or.inl rfl))
    (pss_cons (ps_if (pt_cmpR op_eq (pe_callB call_len_seq (by rfl) A.T.len PySem.boot_len (pa_cons (pv 2) pa_nil)) pe_int (nomark _))
    (pss_one (ps_ret pe_bl))
    pss_nil)
  (pss_cons (ps_asg (pe_bm0 PySem.F.plainAttrs_list PySem.F.slot_list_pop PySem.F.type_list_pop mt_pop (pv 2)) (pg_tup rfl (pgs_cons (pg_name (i := 4) sc_law_same.nd rfl (Or.inr rfl)) (pgs_cons (pg_name (i := 5) sc_law_same.nd rfl (Or.inr rfl)) pgs_nil))))
  (pss_one (ps_if (PW.pt (pw_or (pt_val (pe_callB call_isi (by rfl) A.T.isinstance (by decide +kernel) (pa_cons (pv 5) (pa_cons (pe_bltn (v := .ty "tuple") (by rfl) A.T.tuple (by decide +kernel) rfl) pa_nil)))) (pw_or1 (pt_val (pe_callB call_isi (by rfl) A.T.isinstance (by decide +kernel) (pa_cons (pv 5) (pa_cons (pe_bltn (v := .ty "list") (by rfl) A.T.list (by decide +kernel) rfl) pa_nil)))))))
    (pss_cons (ps_if (PW.pt (pw_or (pt_cmpR op_ne (pe_callB call_isi (by rfl) A.T.isinstance (by decide +kernel) (pa_cons (pv 5) (pa_cons (pe_bltn (v := .ty "tuple") (by rfl) A.T.tuple (by decide +kernel) rfl) pa_nil))) (pe_callB call_isi (by rfl) A.T.isinstance (by decide +kernel) (pa_cons (pv 4) (pa_cons (pe_bltn (v := .ty "tuple") (by rfl) A.T.tuple (by decide +kernel) rfl) pa_nil))) (nomark _)) (pw_or (pt_cmpR op_ne (pe_callB call_isi (by rfl) A.T.isinstance (by decide +kernel) (pa_cons (pv 5) (pa_cons (pe_bltn (v := .ty "list") (by rfl) A.T.list (by decide +kernel) rfl) pa_nil))) (pe_callB call_isi (by rfl) A.T.isinstance (by decide +kernel) (pa_cons (pv 4) (pa_cons (pe_bltn (v := .ty "list") (by rfl) A.T.list (by decide +kernel) rfl) pa_nil))) (nomark _)) (pw_or1 (pt_cmpR op_ne (pe_callB (call_or call_len_seq call_lenD) (by rfl) A.T.len PySem.boot_len (pa_cons (pv 4) pa_nil)) (pe_callB (call_or call_len_seq call_lenD) (by rfl) A.T.len PySem.boot_len (pa_cons (pv 5) pa_nil)) (nomark _))))))
    (pss_one (ps_ret pe_bl))
    pss_nil)
  (pss_one (ps_expr (pe_bm PySem.F.plainAttrs_list PySem.F.slot_list_extend PySem.F.type_list_extend mt_extend (pv 2) (pa_cons (pe_lc (own := [("at", 6)]) (g := gName 6) rfl sc_law_same.nd (pi_range1 rfl A.T.range (pa_cons (pe_callB (call_or call_len_seq call_lenD) (by rfl) A.T.len PySem.boot_len (pa_cons (pv 5) pa_nil)) pa_nil)) (blkOk_by (own := [("at", 6)]) (N := ["actual", "due", "left", "turn", "one", "other", "at", "key"]) (sc := defScope s_law_same) (by decide +kernel)) (fun _ _ _ _ _ => pg_name (i := 6) sc_law_same.nd rfl (Or.inl rfl)) (fun _ _ _ _ _ => pts_nil) (fun _ _ _ _ _ => (pe_tup (pa_cons (pe_ix (ix_any K rfl) (pv 4) (pv 6) (fun _ _ => rfl)) (pa_cons (pe_ix (ix_any K rfl) (pv 5) (pv 6) (fun _ _ => rfl)) pa_nil))))) pa_nil)))))
    (pss_one (ps_if (pt_val (pe_callB call_isi (by rfl) A.T.isinstance (by decide +kernel) (pa_cons (pv 5) (pa_cons (pe_bltn (v := .ty "dict") (by rfl) A.T.dict (by decide +kernel) rfl) pa_nil))))
    (pss_cons (ps_if (PW.pt (pw_or (pt_not (pt_val (pe_callB call_isi (by rfl) A.T.isinstance (by decide +kernel) (pa_cons (pv 4) (pa_cons (pe_bltn (v := .ty "dict") (by rfl) A.T.dict (by decide +kernel) rfl) pa_nil))))) (pw_or (pt_cmpR op_ne (pe_callB (call_or call_len_seq call_lenD) (by rfl) A.T.len PySem.boot_len (pa_cons (pv 4) pa_nil)) (pe_callB (call_or call_len_seq call_lenD) (by rfl) A.T.len PySem.boot_len (pa_cons (pv 5) pa_nil)) (nomark _)) (pw_or1 (pt_cmpR op_gt (pe_callB call_len_seq (by rfl) A.T.len PySem.boot_len (pa_cons (pe_lock (pe_lc (own := [("key", 7)]) (g := gName 7) rfl sc_law_same.nd (pi_keys (pv 5)) (blkOk_by (own := [("key", 7)]) (N := ["actual", "due", "left", "turn", "one", "other", "at", "key"]) (sc := defScope s_law_same) (by decide +kernel)) (fun _ _ _ _ _ => pg_name (i := 7) sc_law_same.nd rfl (Or.inl rfl)) (fun _ _ _ _ _ => pts_one pt_never) (fun _ _ _ _ _ => pe_never))) pa_nil)) pe_int (nomark _))))))
    (pss_one (ps_ret pe_bl))
    pss_nil)
  (pss_one (ps_expr (pe_bm PySem.F.plainAttrs_list PySem.F.slot_list_extend PySem.F.type_list_extend mt_extend (pv 2) (pa_cons (pe_lock (pe_lc (own := [("key", 7)]) (g := gName 7) rfl sc_law_same.nd (pi_keys (pv 5)) (blkOk_by (own := [("key", 7)]) (N := ["actual", "due", "left", "turn", "one", "other", "at", "key"]) (sc := defScope s_law_same) (by decide +kernel)) (fun _ _ _ _ _ => pg_name (i := 7) sc_law_same.nd rfl (Or.inl rfl)) (fun _ _ _ _ _ => pts_nil) (fun _ _ _ _ _ => pe_never))) pa_nil)))))
    (pss_one (ps_if (PW.pt (pw_or (pt_val (pe_callB call_isi (by rfl) A.T.isinstance (by decide +kernel) (pa_cons (pv 5) (pa_cons (pe_bltn (v := .ty "bool") (by rfl) A.T.bool (by decide +kernel) rfl) pa_nil)))) (pw_or1 (pt_val (pe_callB call_isi (by rfl) A.T.isinstance (by decide +kernel) (pa_cons (pv 5) (pa_cons (pe_bltn (v := .ty "str") (by rfl) A.T.str (by decide +kernel) rfl) pa_nil)))))))
    (pss_one (ps_if (PW.pt (pw_or (pt_cmpR op_ne (pe_callB call_isi (by rfl) A.T.isinstance (by decide +kernel) (pa_cons (pv 4) (pa_cons (pe_bltn (v := .ty "bool") (by rfl) A.T.bool (by decide +kernel) rfl) pa_nil))) (pe_callB call_isi (by rfl) A.T.isinstance (by decide +kernel) (pa_cons (pv 5) (pa_cons (pe_bltn (v := .ty "bool") (by rfl) A.T.bool (by decide +kernel) rfl) pa_nil))) (nomark _)) (pw_or (pt_cmpR op_ne (pe_callB call_isi (by rfl) A.T.isinstance (by decide +kernel) (pa_cons (pv 4) (pa_cons (pe_bltn (v := .ty "str") (by rfl) A.T.str (by decide +kernel) rfl) pa_nil))) (pe_callB call_isi (by rfl) A.T.isinstance (by decide +kernel) (pa_cons (pv 5) (pa_cons (pe_bltn (v := .ty "str") (by rfl) A.T.str (by decide +kernel) rfl) pa_nil))) (nomark _)) (pw_or1 (pt_cmpR op_ne (pv 4) (pv 5) (nomark _))))))
    (pss_one (ps_ret pe_bl))
    pss_nil))
    (pss_one (ps_if (pt_val (pe_callB call_isi (by rfl) A.T.isinstance (by decide +kernel) (pa_cons (pv 5) (pa_cons (pe_bltn (v := .ty "int") (by rfl) A.T.int (by decide +kernel) rfl) pa_nil))))
    (pss_one (ps_if (PW.pt (pw_or (pt_not (pt_val (pe_callB call_isi (by rfl) A.T.isinstance (by decide +kernel) (pa_cons (pv 4) (pa_cons (pe_bltn (v := .ty "int") (by rfl) A.T.int (by decide +kernel) rfl) pa_nil))))) (pw_or (pt_val (pe_callB call_isi (by rfl) A.T.isinstance (by decide +kernel) (pa_cons (pv 4) (pa_cons (pe_bltn (v := .ty "bool") (by rfl) A.T.bool (by decide +kernel) rfl) pa_nil)))) (pw_or1 (pt_cmpR op_ne (pv 4) (pv 5) (nomark _))))))
    (pss_one (ps_ret pe_bl))
    pss_nil))
    (pss_one (ps_if (pt_cmpR op_notN (pv 4) pe_non (nomark _))
    (pss_one (ps_ret pe_bl))
    pss_nil)))))))))))))
  (pss_one (ps_ret pe_bl)))), ?_⟩
    refine ⟨_, rfl, _, rfl, by show 2 ≤ sizeLine; decide, fun t nt => ⟨by show 1 ≤ sizeLine; decide, fun L nL => ?_⟩⟩
    have nL0 : H L = none := by
      by_cases e : L = t
      · rw [e]; exact nt
      · rw [upd_ne e] at nL; exact nL
    have ntL : t ≠ L := fun z => by rw [← z, upd_same] at nL; cases nL
    have aI : Adv [] H (upd (upd H t (.tup [v1, v2])) L (.lst [.ref t])) := (Adv.new nt).trans (Adv.new nL)
    refine ⟨2000000, rfl, by decide, by decide, for_range (lo := 0) (n := (2000000 : Int).toNat) (fun i σ' H' => ∃ (ds : List PyData) (vs : List V) (x3 x4 x5 : Option V), σ' = [some v1, some v2, some (.ref L), x3, x4, x5, none, none] ∧ Adv [] H H' ∧ H' L = some (.lst vs) ∧ IsDs [L] H' (ds.map prD) vs ∧ szL ds + i ≤ 1000000)
      ⟨[d0], [.ref t], none, none, none, rfl, aI, upd_same, ?_, ?_⟩ ?_ ?_⟩
    · have f1 := ((h1.fresh nL0).less (N := [L]) (by simp)).adv (aI.more (by simp))
      have f2 := ((h2.fresh nL0).less (N := [L]) (by simp)).adv (aI.more (by simp))
      exact IsDs.one (Is.tup (by rw [upd_ne ntL, upd_same]) (by simpa using ntL) (.cons f1 (IsDs.one f2)))
    · rw [szL_cons, szL_nil]
      omega
    · rintro i σ' H' hi ⟨ds, vs, x3, x4, x5, rfl, a', hL, hds, hsz⟩
      refine ⟨_, rfl, L, vs, rfl, .inl (SqL.of hL), rfl, _, rfl, ?_⟩
      rcases List.eq_nil_or_concat ds with rfl | ⟨ds', d, rfl⟩
      · have e0 : vs = [] := by unfold IsDs at hds; exact hds
        subst e0
        exact iteY rfl (q _ a')
      rw [List.concat_eq_append] at hds hsz
      rw [List.map_append] at hds
      obtain ⟨ws, v, rfl, hws, hv⟩ := IsDs.last (d := prD d) hds
      refine iteN (by simp; omega) ?_
      refine ⟨_, rfl, .inl ⟨rfl, _, SqL.of hL⟩, L, ws ++ [v], v, rfl, rfl, hL, by simp, ?_⟩
      rw [List.dropLast_concat]
      obtain ⟨tp, u1, u2, rfl, htp, hu1, hu2⟩ := hv.pair
      have aL : Adv [L] H' (upd H' L (.lst ws)) := Adv.set (by simp)
      have a2 : Adv [] H (upd H' L (.lst ws)) := a'.mut nL0
      have htp2 := htp.adv aL
      replace hu1 := hu1.adv aL
      replace hu2 := hu2.adv aL
      replace hws := hws.adv aL
      have hL2 : (upd H' L (.lst ws)) L = some (.lst ws) := upd_same
      have hwl := hws.len
      rw [szL_app, szL_cons, szL_nil] at hsz
      have szle : ∀ l : List PyData, l.length ≤ szL l := fun l => by
        induction l with
        | nil => exact Nat.zero_le _
        | cons c r ih =>
          rw [szL_cons, List.length_cons]
          have := sz_pos c
          omega
      have hdl := szle ds'
      rw [List.length_map] at hwl
      generalize upd H' L (.lst ws) = H2 at *
      have fin : ∀ (x3 x4 x5 : Option V) (H3 : Hp), Adv [] H2 H3 → ∃ (ds : List PyData) (vs : List V) (y3 y4 y5 : Option V), [some v1, some v2, some (.ref L), x3, x4, x5, none, none] = [some v1, some v2, some (.ref L), y3, y4, y5, none, none] ∧ Adv [] H H3 ∧ H3 L = some (.lst vs) ∧ IsDs [L] H3 (ds.map prD) vs ∧ szL ds + (i + 1) ≤ 1000000 := fun x3 x4 x5 H3 a3 =>
        ⟨ds', ws, x3, x4, x5, rfl, a2.trans a3, a3.same _ _ hL2, hws.adv (a3.more (by simp)), by have := sz_pos d; omega⟩
      refine ⟨tp, [u1, u2], rfl, htp2.sq A.W, rfl, _, _, rfl, _, _, rfl, rfl, ?_⟩
      cases d with
      | list cs =>
        refine ⟨_, rfl, _, _, _, _, _, rfl, .ty _, hu2.ty A.W, k_tuple _, _, rfl, ?_⟩
        refine iteN (by simp [kitD, tyN]) ?_
        refine ⟨_, rfl, _, _, _, _, _, rfl, .ty _, hu2.ty A.W, k_list _, _, rfl, iteY (by simp [kitD, tyN]) ?_⟩
        obtain ⟨b1, r1, rfl, nb1, hb1, hr1⟩ := hu1.lstE
        obtain ⟨b2, r2, rfl, nb2, hb2, hr2⟩ := hu2.lstE
        have hl1 := hr1.len
        have hl2 := hr2.len
        have szc : sz (.list cs) = 1 + szL cs := by rw [sz]
        have hcl := szle cs
        refine ⟨_, rfl, _, _, _, _, _, rfl, .ty _, hu2.ty A.W, k_tuple _, _, rfl, _, _, _, _, _, rfl, .ty _, hu1.ty A.W, k_tuple _, rfl, _, rfl, iteN (by simp) ?_⟩
        refine ⟨_, rfl, _, _, _, _, _, rfl, .ty _, hu2.ty A.W, k_list _, _, rfl, _, _, _, _, _, rfl, .ty _, hu1.ty A.W, k_list _, rfl, _, rfl, iteN (by simp) ?_⟩
        refine ⟨_, rfl, .inl ⟨b1, r1, rfl, .inl (SqL.of hb1), _, rfl, .inl ⟨b2, r2, rfl, .inl (SqL.of hb2), rfl, _, rfl, iteN (by simp [hl1, hl2]) ?_⟩⟩⟩
        refine ⟨_, rfl, .inl ⟨rfl, _, SqL.of hL2⟩, _, rfl, .inl ⟨b2, r2, rfl, .inl (SqL.of hb2), (r2.length : Int), rfl, by omega, by omega, fun D nD => ?_⟩⟩
        refine lc_dataR (M := [L]) (n := (r2.length : Int).toNat) (cs.map prD) (by simp [hl2]) nD (by simp [hl2]; omega) ?_ ?_
        · intro j dj H3 acc R hj a3 hD k
          have hjl : j < cs.length := by
            have := (List.getElem?_eq_some_iff.mp hj).1
            simpa using this
          have e0 : (0 : Int) + (j : Nat) = (j : Int) := by omega
          rw [e0]
          obtain ⟨w1, hw1, iw1⟩ := hr1.get (List.getElem?_eq_getElem hjl)
          obtain ⟨w2, hw2, iw2⟩ := hr2.get (List.getElem?_eq_getElem hjl)
          have ed : prD cs[j] = dj := by simpa [hjl] using hj
          refine ⟨rfl, _, rfl, _, rfl, .inl ⟨b1, r1, (j : Int), w1, rfl, rfl, SqL.of (a3.same _ _ hb1), atI_nat hw1, _, rfl, _, rfl, .inl ⟨b2, r2, (j : Int), w2, rfl, rfl, SqL.of (a3.same _ _ hb2), atI_nat hw2, by show 2 ≤ sizeLine; decide, fun T nT => ?_⟩⟩⟩
          have nDT : T ≠ D := (ne_of_none hD nT).symm
          have nLT : T ≠ L := (ne_of_none (a3.same _ _ hL2) nT).symm
          refine k _ _ (by rw [upd_ne nDT.symm]; exact hD) (Adv.new nT) ?_
          rw [← ed]
          have aa : Adv [D, L] H2 (upd H3 T (.tup [w1, w2])) := (a3.more (by simp)).trans (Adv.new nT)
          have g1 : Is [D, L] H2 cs[j] w1 := iw1.fresh nD
          have g2 : Is [D, L] H2 cs[j] w2 := iw2.fresh nD
          exact Is.tup upd_same (by simp [nDT, nLT]) (.cons (g1.adv aa) (IsDs.one (g2.adv aa)))
        · intro H3 acc a3 hD hacc
          have hal := hacc.len
          rw [List.length_map] at hal
          have hL3 := a3.same _ _ hL2
          have nDL : D ≠ L := (ne_of_none hL2 nD).symm
          refine ⟨L, D, ws, acc, rfl, rfl, hL3, hD, by rw [sizeLine_eq]; omega, ?_⟩
          refine ⟨ds' ++ cs, ws ++ acc, _, _, _, rfl, (a2.trans a3).mut nL0, upd_same, ?_, ?_⟩
          · rw [List.map_append]
            exact ((hws.adv (a3.more (by simp))).adv (Adv.set (by simp))).app ((hacc.less (by simp)).adv (Adv.set (by simp)))
          · rw [szL_app]
            omega
      | tuple cs =>
        refine ⟨_, rfl, _, _, _, _, _, rfl, .ty _, hu2.ty A.W, k_tuple _, _, rfl, ?_⟩
        refine iteY (by simp [kitD, tyN]) (iteY rfl ?_)
        obtain ⟨b1, r1, rfl, hb1, hr1⟩ := hu1.tupE
        obtain ⟨b2, r2, rfl, hb2, hr2⟩ := hu2.tupE
        have hl1 := hr1.len
        have hl2 := hr2.len
        have szc : sz (.tuple cs) = 1 + szL cs := by rw [sz]
        have hcl := szle cs
        refine ⟨_, rfl, _, _, _, _, _, rfl, .ty _, hu2.ty A.W, k_tuple _, _, rfl, _, _, _, _, _, rfl, .ty _, hu1.ty A.W, k_tuple _, rfl, _, rfl, iteN (by simp) ?_⟩
        refine ⟨_, rfl, _, _, _, _, _, rfl, .ty _, hu2.ty A.W, k_list _, _, rfl, _, _, _, _, _, rfl, .ty _, hu1.ty A.W, k_list _, rfl, _, rfl, iteN (by simp) ?_⟩
        refine ⟨_, rfl, .inl ⟨b1, r1, rfl, .inr (hb1.sq A.W), _, rfl, .inl ⟨b2, r2, rfl, .inr (hb2.sq A.W), rfl, _, rfl, iteN (by simp [hl1, hl2]) ?_⟩⟩⟩
        refine ⟨_, rfl, .inl ⟨rfl, _, SqL.of hL2⟩, _, rfl, .inl ⟨b2, r2, rfl, .inr (hb2.sq A.W), (r2.length : Int), rfl, by omega, by omega, fun D nD => ?_⟩⟩
        refine lc_dataR (M := [L]) (n := (r2.length : Int).toNat) (cs.map prD) (by simp [hl2]) nD (by simp [hl2]; omega) ?_ ?_
        · intro j dj H3 acc R hj a3 hD k
          have hjl : j < cs.length := by
            have := (List.getElem?_eq_some_iff.mp hj).1
            simpa using this
          have e0 : (0 : Int) + (j : Nat) = (j : Int) := by omega
          rw [e0]
          obtain ⟨w1, hw1, iw1⟩ := hr1.get (List.getElem?_eq_getElem hjl)
          obtain ⟨w2, hw2, iw2⟩ := hr2.get (List.getElem?_eq_getElem hjl)
          have ed : prD cs[j] = dj := by simpa [hjl] using hj
          refine ⟨rfl, _, rfl, _, rfl, .inr ⟨b1, r1, (j : Int), w1, rfl, rfl, (hb1.adv (Adv.nil a3)).sq A.W, atI_nat hw1, _, rfl, _, rfl, .inr ⟨b2, r2, (j : Int), w2, rfl, rfl, (hb2.adv (Adv.nil a3)).sq A.W, atI_nat hw2, by show 2 ≤ sizeLine; decide, fun T nT => ?_⟩⟩⟩
          have nDT : T ≠ D := (ne_of_none hD nT).symm
          have nLT : T ≠ L := (ne_of_none (a3.same _ _ hL2) nT).symm
          refine k _ _ (by rw [upd_ne nDT.symm]; exact hD) (Adv.new nT) ?_
          rw [← ed]
          have aa : Adv [D, L] H2 (upd H3 T (.tup [w1, w2])) := (a3.more (by simp)).trans (Adv.new nT)
          have g1 : Is [D, L] H2 cs[j] w1 := iw1.fresh nD
          have g2 : Is [D, L] H2 cs[j] w2 := iw2.fresh nD
          exact Is.tup upd_same (by simp [nDT, nLT]) (.cons (g1.adv aa) (IsDs.one (g2.adv aa)))
        · intro H3 acc a3 hD hacc
          have hal := hacc.len
          rw [List.length_map] at hal
          have hL3 := a3.same _ _ hL2
          have nDL : D ≠ L := (ne_of_none hL2 nD).symm
          refine ⟨L, D, ws, acc, rfl, rfl, hL3, hD, by rw [sizeLine_eq]; omega, ?_⟩
          refine ⟨ds' ++ cs, ws ++ acc, _, _, _, rfl, (a2.trans a3).mut nL0, upd_same, ?_, ?_⟩
          · rw [List.map_append]
            exact ((hws.adv (a3.more (by simp))).adv (Adv.set (by simp))).app ((hacc.less (by simp)).adv (Adv.set (by simp)))
          · rw [szL_app]
            omega
      | dict kvs =>
        refine ⟨_, rfl, _, _, _, _, _, rfl, .ty _, hu2.ty A.W, k_tuple _, _, rfl, iteN (by simp [kitD, tyN]) ?_⟩
        refine ⟨_, rfl, _, _, _, _, _, rfl, .ty _, hu2.ty A.W, k_list _, _, rfl, iteN (by simp [kitD, tyN]) ?_⟩
        refine ⟨_, rfl, _, _, _, _, _, rfl, .ty _, hu2.ty A.W, k_dict _, _, rfl, iteY (by simp [kitD, tyN]) ?_⟩
        obtain ⟨rfl, b1, rfl, nb1, hb1⟩ := hu1.dicE
        obtain ⟨_, b2, rfl, nb2, hb2⟩ := hu2.dicE
        refine ⟨_, rfl, _, _, _, _, _, rfl, .ty _, hu1.ty A.W, k_dict _, _, rfl, iteN (by simp [kitD, tyN]) ?_⟩
        refine ⟨_, rfl, .inr ⟨b1, [], rfl, hb1, _, rfl, .inr ⟨b2, [], rfl, hb2, rfl, _, rfl, iteN (by simp) ?_⟩⟩⟩
        refine ⟨b2, .dK [], hb2, trivial, fun od => ?_⟩
        refine ⟨_, rfl, b2, od, rfl, .inl ⟨[], upd_same, fun D nD => ?_⟩⟩
        have nDb : b2 ≠ D := fun z => by rw [← z, upd_same] at nD; cases nD
        have nD2 : H2 D = none := by rw [upd_ne nDb.symm] at nD; exact nD
        refine lc_keys0 (d := b2) (o := od) upd_same nD ?_
        refine ⟨by rw [upd_ne nDb]; exact upd_same, ?_⟩
        have a3 : Adv [] H2 (upd (upd (upd H2 b2 (.frz od (.dK []))) D (.lst [])) b2 (.dK [])) := fun b o _ e => by
          by_cases eb : b = b2
          · rw [eb, upd_same, ← hb2, ← eb, e]
          · rw [upd_ne eb, upd_ne (ne_of_none e nD2), upd_ne eb, e]
        have hD3 : (upd (upd (upd H2 b2 (.frz od (.dK []))) D (.lst [])) b2 (.dK [])) D = some (.lst []) := by rw [upd_ne nDb.symm, upd_same]
        refine ⟨D, [], rfl, .inl (SqL.of hD3), _, _, rfl, rfl, _, rfl, iteN (by decide) ?_⟩
        generalize (upd (upd (upd H2 b2 (.frz od (.dK []))) D (.lst [])) b2 (.dK [])) = H3 at *
        have hb3 := a3.same _ _ hb2
        have hL3 := a3.same _ _ hL2
        refine ⟨_, rfl, .inl ⟨rfl, _, SqL.of hL3⟩, b2, .dK [], hb3, trivial, fun od => ?_⟩
        refine ⟨_, rfl, b2, od, rfl, .inl ⟨[], upd_same, fun D nD => ?_⟩⟩
        have nDb : b2 ≠ D := fun z => by rw [← z, upd_same] at nD; cases nD
        have nD3 : H3 D = none := by rw [upd_ne nDb.symm] at nD; exact nD
        refine lc_keys0 (d := b2) (o := od) upd_same nD ?_
        refine ⟨by rw [upd_ne nDb]; exact upd_same, ?_⟩
        have a4 : Adv [] H3 (upd (upd (upd H3 b2 (.frz od (.dK []))) D (.lst [])) b2 (.dK [])) := fun b o _ e => by
          by_cases eb : b = b2
          · rw [eb, upd_same, ← hb3, ← eb, e]
          · rw [upd_ne eb, upd_ne (ne_of_none e nD3), upd_ne eb, e]
        have hD4 : (upd (upd (upd H3 b2 (.frz od (.dK []))) D (.lst [])) b2 (.dK [])) D = some (.lst []) := by rw [upd_ne nDb.symm, upd_same]
        generalize (upd (upd (upd H3 b2 (.frz od (.dK []))) D (.lst [])) b2 (.dK [])) = H4 at *
        have hL4 := a4.same _ _ hL3
        refine ⟨L, D, ws, [], rfl, rfl, hL4, hD4, by rw [sizeLine_eq, List.length_nil]; omega, ?_⟩
        refine ⟨ds', ws, _, _, _, rfl, ((a2.trans a3).trans a4).mut nL0, by rw [upd_same, List.append_nil], ?_, by have := sz_pos (.dict []); omega⟩
        exact ((hws.adv (a3.more (by simp))).adv (a4.more (by simp))).adv (Adv.set (by simp))
      | bool b =>
        refine ⟨_, rfl, _, _, _, _, _, rfl, .ty _, hu2.ty A.W, k_tuple _, _, rfl, iteN (by simp [kitD, tyN]) ?_⟩
        refine ⟨_, rfl, _, _, _, _, _, rfl, .ty _, hu2.ty A.W, k_list _, _, rfl, iteN (by simp [kitD, tyN]) ?_⟩
        refine ⟨_, rfl, _, _, _, _, _, rfl, .ty _, hu2.ty A.W, k_dict _, _, rfl, iteN (by simp [kitD, tyN]) ?_⟩
        refine ⟨_, rfl, _, _, _, _, _, rfl, .ty _, hu2.ty A.W, k_bool _, _, rfl, iteY (by simp [kitD, tyN]) (iteY rfl ?_)⟩
        refine ⟨_, rfl, _, _, _, _, _, rfl, .ty _, hu1.ty A.W, k_bool _, _, rfl, _, _, _, _, _, rfl, .ty _, hu2.ty A.W, k_bool _, rfl, _, rfl, iteN (by simp) ?_⟩
        refine ⟨_, rfl, _, _, _, _, _, rfl, .ty _, hu1.ty A.W, k_str _, _, rfl, _, _, _, _, _, rfl, .ty _, hu2.ty A.W, k_str _, rfl, _, rfl, iteN (by simp) ?_⟩
        cases hu1.blE
        cases hu2.blE
        exact ⟨_, rfl, _, rfl, rfl, _, rfl, iteN (by simp) (fin _ _ _ _ (Adv.refl _ _))⟩
      | str x =>
        refine ⟨_, rfl, _, _, _, _, _, rfl, .ty _, hu2.ty A.W, k_tuple _, _, rfl, iteN (by simp [kitD, tyN]) ?_⟩
        refine ⟨_, rfl, _, _, _, _, _, rfl, .ty _, hu2.ty A.W, k_list _, _, rfl, iteN (by simp [kitD, tyN]) ?_⟩
        refine ⟨_, rfl, _, _, _, _, _, rfl, .ty _, hu2.ty A.W, k_dict _, _, rfl, iteN (by simp [kitD, tyN]) ?_⟩
        refine ⟨_, rfl, _, _, _, _, _, rfl, .ty _, hu2.ty A.W, k_bool _, _, rfl, iteN (by simp [kitD, tyN]) ?_⟩
        refine ⟨_, rfl, _, _, _, _, _, rfl, .ty _, hu2.ty A.W, k_str _, _, rfl, iteY (by simp [kitD, tyN]) ?_⟩
        refine ⟨_, rfl, _, _, _, _, _, rfl, .ty _, hu1.ty A.W, k_bool _, _, rfl, _, _, _, _, _, rfl, .ty _, hu2.ty A.W, k_bool _, rfl, _, rfl, iteN (by simp) ?_⟩
        refine ⟨_, rfl, _, _, _, _, _, rfl, .ty _, hu1.ty A.W, k_str _, _, rfl, _, _, _, _, _, rfl, .ty _, hu2.ty A.W, k_str _, rfl, _, rfl, iteN (by simp) ?_⟩
        cases hu1.strE
        cases hu2.strE
        exact ⟨_, rfl, _, rfl, rfl, _, rfl, iteN (by simp) (fin _ _ _ _ (Adv.refl _ _))⟩
      | int n =>
        refine ⟨_, rfl, _, _, _, _, _, rfl, .ty _, hu2.ty A.W, k_tuple _, _, rfl, iteN (by simp [kitD, tyN]) ?_⟩
        refine ⟨_, rfl, _, _, _, _, _, rfl, .ty _, hu2.ty A.W, k_list _, _, rfl, iteN (by simp [kitD, tyN]) ?_⟩
        refine ⟨_, rfl, _, _, _, _, _, rfl, .ty _, hu2.ty A.W, k_dict _, _, rfl, iteN (by simp [kitD, tyN]) ?_⟩
        refine ⟨_, rfl, _, _, _, _, _, rfl, .ty _, hu2.ty A.W, k_bool _, _, rfl, iteN (by simp [kitD, tyN]) ?_⟩
        refine ⟨_, rfl, _, _, _, _, _, rfl, .ty _, hu2.ty A.W, k_str _, _, rfl, iteN (by simp [kitD, tyN]) ?_⟩
        refine ⟨_, rfl, _, _, _, _, _, rfl, .ty _, hu2.ty A.W, k_int _, _, rfl, iteY (by simp [kitD, tyN]) ?_⟩
        refine ⟨_, rfl, _, _, _, _, _, rfl, .ty _, hu1.ty A.W, k_int _, _, rfl, iteN (by simp [kitD, tyN]) ?_⟩
        refine ⟨_, rfl, _, _, _, _, _, rfl, .ty _, hu1.ty A.W, k_bool _, _, rfl, iteN (by simp [kitD, tyN]) ?_⟩
        cases hu1.intE
        cases hu2.intE
        exact ⟨_, rfl, _, rfl, rfl, _, rfl, iteN (by simp) (fin _ _ _ _ (Adv.refl _ _))⟩
      | none =>
        refine ⟨_, rfl, _, _, _, _, _, rfl, .ty _, hu2.ty A.W, k_tuple _, _, rfl, iteN (by simp [kitD, tyN]) ?_⟩
        refine ⟨_, rfl, _, _, _, _, _, rfl, .ty _, hu2.ty A.W, k_list _, _, rfl, iteN (by simp [kitD, tyN]) ?_⟩
        refine ⟨_, rfl, _, _, _, _, _, rfl, .ty _, hu2.ty A.W, k_dict _, _, rfl, iteN (by simp [kitD, tyN]) ?_⟩
        refine ⟨_, rfl, _, _, _, _, _, rfl, .ty _, hu2.ty A.W, k_bool _, _, rfl, iteN (by simp [kitD, tyN]) ?_⟩
        refine ⟨_, rfl, _, _, _, _, _, rfl, .ty _, hu2.ty A.W, k_str _, _, rfl, iteN (by simp [kitD, tyN]) ?_⟩
        refine ⟨_, rfl, _, _, _, _, _, rfl, .ty _, hu2.ty A.W, k_int _, _, rfl, iteN (by simp [kitD, tyN]) ?_⟩
        cases hu1.nonE
        cases hu2.nonE
        exact ⟨_, rfl, rfl, _, rfl, iteN (by simp) (fin _ _ _ _ (Adv.refl _ _))⟩
    · rintro σ' H' ⟨ds, vs, x3, x4, x5, rfl, a', hL, hds, hsz⟩
      have : (2000000 : Int).toNat = 2000000 := rfl
      omega
end
end K60

set_option Elab.async false
set_option linter.all false
set_option maxRecDepth 100000
set_option maxHeartbeats 4000000
namespace K60
open PySem PySem.Spec PyProof.Rows L2 LL
open C8 (pss_cut)
section
variable [KW]
variable {P : Program} {w : World} {K : PySem.W.Frag} {mg : Str → Option Value} {base : Heap}
def spCopy (n : Nat) : Sp := fun vs H Q _ => ∃ (v : V) (d : PyData) (M : List Addr), vs = [v] ∧ (∀ b ∈ M, H b ≠ none) ∧ Is M H d v ∧ dep d ≤ n ∧ sz d ≤ 1000000 ∧ ∀ v' H', Is M H' d v' → Adv [] H H' → Q v' H'
theorem szL_len : ∀ l : List PyData, l.length ≤ szL l
  | [] => Nat.zero_le _
  | c :: r => by
    rw [szL_cons, List.length_cons]
    have := sz_pos c
    have := szL_len r
    omega
theorem sz_mem : ∀ {ds : List PyData} {d : PyData}, d ∈ ds → sz d ≤ szL ds
  | c :: ds, d, h => by
    rw [szL_cons]
    rcases List.mem_cons.mp h with e | h
    · rw [e]; omega
    · have := sz_mem h
      omega
theorem copy_0 (A : All K mg w) : FnOk P w K mg base CX0 1 A.law_copy.f A.law_copy.fd ["value"] (spCopy 0) := by
  refine A.law_copy.F.ok sc_law_copy (fun vs H Q E h => ?_) (fun cdv Ar outer s H vs Q E hr h => ?_)
  · obtain ⟨v, d, M, rfl, _⟩ := h
    rfl
  · obtain ⟨v, d, M, rfl, hM, hv, hn, hz, q⟩ := h
    refine ⟨_, (pss_cons (ps_if (pt_val (pe_callB call_isi (by rfl) A.T.isinstance (by decide +kernel) (pa_cons (pv 0) (pa_cons (pe_bltn (v := .ty "dict") (by rfl) A.T.dict (by decide +kernel) rfl) pa_nil))))
    (pss_cons (ps_set (i := 1) sc_law_copy.nd rfl (Or.inl rfl) pe_dnewK)
  (pss_cons (ps_lock (ps_for PassesOwn.never rfl (pi_keys (pv 0)) (pg_name (i := 2) sc_law_copy.nd rfl (Or.inl rfl)) pss_never))
  (pss_one (ps_ret (pv 1)))))
    pss_nil)
  (pss_cons (ps_if (pt_val (pe_callB call_isi (by rfl) A.T.isinstance (by decide +kernel) (pa_cons (pv 0) (pa_cons (pe_bltn (v := .ty "list") (by rfl) A.T.list (by decide +kernel) rfl) pa_nil))))
    (pss_one (ps_ret (pe_lc (own := [("item", 3)]) (g := gName 3) rfl sc_law_copy.nd (pi_list (pv 0)) (blkOk_by (own := [("item", 3)]) (N := ["value", "found", "key", "item"]) (sc := defScope s_law_copy) (by decide +kernel)) (fun _ _ _ _ _ => pg_name (i := 3) sc_law_copy.nd rfl (Or.inl rfl)) (fun _ _ _ _ _ => pts_nil) (fun _ _ _ _ _ => pe_never))))
    pss_nil)
  (pss_cons (ps_if (pt_val (pe_callB call_isi (by rfl) A.T.isinstance (by decide +kernel) (pa_cons (pv 0) (pa_cons (pe_bltn (v := .ty "tuple") (by rfl) A.T.tuple (by decide +kernel) rfl) pa_nil))))
    (pss_one (ps_ret (pe_callTy call_tuple_of (by rfl) A.T.tuple (by decide +kernel) (pa_cons (pe_lc (own := [("item", 3)]) (g := gName 3) rfl sc_law_copy.nd (pi_tup (pv 0)) (blkOk_by (own := [("item", 3)]) (N := ["value", "found", "key", "item"]) (sc := defScope s_law_copy) (by decide +kernel)) (fun _ _ _ _ _ => pg_name (i := 3) sc_law_copy.nd rfl (Or.inl rfl)) (fun _ _ _ _ _ => pts_nil) (fun _ _ _ _ _ => pe_never)) pa_nil))))
    pss_nil)
  (pss_one (ps_ret (pv 0)))))), ?_⟩
    refine ⟨_, rfl, _, _, _, _, _, rfl, .ty _, hv.ty A.W, k_dict _, _, rfl, ?_⟩
    cases d with
    | dict kvs =>
      refine iteY (by simp [kitD, tyN]) ?_
      obtain ⟨rfl, b, rfl, nb, hb⟩ := hv.dicE
      intro f nf
      have nbf : b ≠ f := ne_of_none hb nf
      refine ⟨b, .dK [], by rw [upd_ne nbf]; exact hb, trivial, fun od => ?_⟩
      refine ⟨_, rfl, b, od, rfl, .inl ⟨[], upd_same, ?_⟩⟩
      refine for_keys0 (d := b) (o := od) upd_same ?_
      refine ⟨upd_same, ?_⟩
      have hf : (upd (upd (upd H f (.dK [])) b (.frz od (.dK []))) b (.dK [])) f = some (.dK []) := by rw [upd_ne nbf.symm, upd_ne nbf.symm, upd_same]
      refine ⟨_, rfl, q _ _ (Is.dic hf (not_mem_new hM nf)) fun c o _ e => ?_⟩
      by_cases ec : c = b
      · rw [ec, upd_same, ← hb, ← ec, e]
      · rw [upd_ne ec, upd_ne ec, upd_ne (ne_of_none e nf), e]
    | list ds =>
      refine iteN (by simp [kitD, tyN]) ?_
      refine ⟨_, rfl, _, _, _, _, _, rfl, .ty _, hv.ty A.W, k_list _, _, rfl, iteY (by simp [kitD, tyN]) ?_⟩
      obtain ⟨b, r, rfl, nb, hb, hr1⟩ := hv.lstE
      have hl := hr1.len
      have hdd : dep (.list ds) = 1 + depL ds := by rw [dep]
      have hss : sz (.list ds) = 1 + szL ds := by rw [sz]
      have hlen := szL_len ds
      omega
    | tuple ds =>
      refine iteN (by simp [kitD, tyN]) ?_
      refine ⟨_, rfl, _, _, _, _, _, rfl, .ty _, hv.ty A.W, k_list _, _, rfl, iteN (by simp [kitD, tyN]) ?_⟩
      refine ⟨_, rfl, _, _, _, _, _, rfl, .ty _, hv.ty A.W, k_tuple _, _, rfl, iteY (by simp [kitD, tyN]) ?_⟩
      obtain ⟨b, r, rfl, hb, hr1⟩ := hv.tupE
      have hl := hr1.len
      have hdd : dep (.tuple ds) = 1 + depL ds := by rw [dep]
      have hss : sz (.tuple ds) = 1 + szL ds := by rw [sz]
      have hlen := szL_len ds
      omega
    | none =>
      refine iteN (by simp [kitD, tyN]) ?_
      refine ⟨_, rfl, _, _, _, _, _, rfl, .ty _, hv.ty A.W, k_list _, _, rfl, iteN (by simp [kitD, tyN]) ?_⟩
      refine ⟨_, rfl, _, _, _, _, _, rfl, .ty _, hv.ty A.W, k_tuple _, _, rfl, iteN (by simp [kitD, tyN]) ?_⟩
      exact ⟨_, rfl, q _ _ hv (Adv.refl _ _)⟩
    | bool _ =>
      refine iteN (by simp [kitD, tyN]) ?_
      refine ⟨_, rfl, _, _, _, _, _, rfl, .ty _, hv.ty A.W, k_list _, _, rfl, iteN (by simp [kitD, tyN]) ?_⟩
      refine ⟨_, rfl, _, _, _, _, _, rfl, .ty _, hv.ty A.W, k_tuple _, _, rfl, iteN (by simp [kitD, tyN]) ?_⟩
      exact ⟨_, rfl, q _ _ hv (Adv.refl _ _)⟩
    | int _ =>
      refine iteN (by simp [kitD, tyN]) ?_
      refine ⟨_, rfl, _, _, _, _, _, rfl, .ty _, hv.ty A.W, k_list _, _, rfl, iteN (by simp [kitD, tyN]) ?_⟩
      refine ⟨_, rfl, _, _, _, _, _, rfl, .ty _, hv.ty A.W, k_tuple _, _, rfl, iteN (by simp [kitD, tyN]) ?_⟩
      exact ⟨_, rfl, q _ _ hv (Adv.refl _ _)⟩
    | str _ =>
      refine iteN (by simp [kitD, tyN]) ?_
      refine ⟨_, rfl, _, _, _, _, _, rfl, .ty _, hv.ty A.W, k_list _, _, rfl, iteN (by simp [kitD, tyN]) ?_⟩
      refine ⟨_, rfl, _, _, _, _, _, rfl, .ty _, hv.ty A.W, k_tuple _, _, rfl, iteN (by simp [kitD, tyN]) ?_⟩
      exact ⟨_, rfl, q _ _ hv (Adv.refl _ _)⟩
theorem copy_s (A : All K mg w) {n : Nat} (G : FnOk P w K mg base CX0 (n + 1) A.law_copy.f A.law_copy.fd ["value"] (spCopy n)) : FnOk P w K mg base CX0 (n + 2) A.law_copy.f A.law_copy.fd ["value"] (spCopy (n + 1)) := by
  refine A.law_copy.F.ok sc_law_copy (fun vs H Q E h => ?_) (fun cdv Ar outer s H vs Q E hr h => ?_)
  · obtain ⟨v, d, M, rfl, _⟩ := h
    rfl
  · obtain ⟨v, d, M, rfl, hM, hv, hn, hz, q⟩ := h
    refine ⟨_, (pss_cons (ps_if (pt_val (pe_callB call_isi (by rfl) A.T.isinstance (by decide +kernel) (pa_cons (pv 0) (pa_cons (pe_bltn (v := .ty "dict") (by rfl) A.T.dict (by decide +kernel) rfl) pa_nil))))
    (pss_cons (ps_set (i := 1) sc_law_copy.nd rfl (Or.inl rfl) pe_dnewK)
  (pss_cons (ps_lock (ps_for PassesOwn.never rfl (pi_keys (pv 0)) (pg_name (i := 2) sc_law_copy.nd rfl (Or.inl rfl)) pss_never))
  (pss_one (ps_ret (pv 1)))))
    pss_nil)
  (pss_cons (ps_if (pt_val (pe_callB call_isi (by rfl) A.T.isinstance (by decide +kernel) (pa_cons (pv 0) (pa_cons (pe_bltn (v := .ty "list") (by rfl) A.T.list (by decide +kernel) rfl) pa_nil))))
    (pss_one (ps_ret (pe_lc (own := [("item", 3)]) (g := gName 3) rfl sc_law_copy.nd (pi_list (pv 0)) (blkOk_by (own := [("item", 3)]) (N := ["value", "found", "key", "item"]) (sc := defScope s_law_copy) (by decide +kernel)) (fun _ _ _ _ _ => pg_name (i := 3) sc_law_copy.nd rfl (Or.inl rfl)) (fun _ _ _ _ _ => pts_nil) (fun _ _ _ _ _ => (pe_call G hr rfl A.law_copy.m A.law_copy.F.kp A.law_copy.b .nil pass0 (pa_cons (pv 3) pa_nil))))))
    pss_nil)
  (pss_cons (ps_if (pt_val (pe_callB call_isi (by rfl) A.T.isinstance (by decide +kernel) (pa_cons (pv 0) (pa_cons (pe_bltn (v := .ty "tuple") (by rfl) A.T.tuple (by decide +kernel) rfl) pa_nil))))
    (pss_one (ps_ret (pe_callTy call_tuple_of (by rfl) A.T.tuple (by decide +kernel) (pa_cons (pe_lc (own := [("item", 3)]) (g := gName 3) rfl sc_law_copy.nd (pi_tup (pv 0)) (blkOk_by (own := [("item", 3)]) (N := ["value", "found", "key", "item"]) (sc := defScope s_law_copy) (by decide +kernel)) (fun _ _ _ _ _ => pg_name (i := 3) sc_law_copy.nd rfl (Or.inl rfl)) (fun _ _ _ _ _ => pts_nil) (fun _ _ _ _ _ => (pe_call G hr rfl A.law_copy.m A.law_copy.F.kp A.law_copy.b .nil pass0 (pa_cons (pv 3) pa_nil)))) pa_nil))))
    pss_nil)
  (pss_one (ps_ret (pv 0)))))), ?_⟩
    refine ⟨_, rfl, _, _, _, _, _, rfl, .ty _, hv.ty A.W, k_dict _, _, rfl, ?_⟩
    cases d with
    | dict kvs =>
      refine iteY (by simp [kitD, tyN]) ?_
      obtain ⟨rfl, b, rfl, nb, hb⟩ := hv.dicE
      intro f nf
      have nbf : b ≠ f := ne_of_none hb nf
      refine ⟨b, .dK [], by rw [upd_ne nbf]; exact hb, trivial, fun od => ?_⟩
      refine ⟨_, rfl, b, od, rfl, .inl ⟨[], upd_same, ?_⟩⟩
      refine for_keys0 (d := b) (o := od) upd_same ?_
      refine ⟨upd_same, ?_⟩
      have hf : (upd (upd (upd H f (.dK [])) b (.frz od (.dK []))) b (.dK [])) f = some (.dK []) := by rw [upd_ne nbf.symm, upd_ne nbf.symm, upd_same]
      refine ⟨_, rfl, q _ _ (Is.dic hf (not_mem_new hM nf)) fun c o _ e => ?_⟩
      by_cases ec : c = b
      · rw [ec, upd_same, ← hb, ← ec, e]
      · rw [upd_ne ec, upd_ne ec, upd_ne (ne_of_none e nf), e]
    | list ds =>
      refine iteN (by simp [kitD, tyN]) ?_
      refine ⟨_, rfl, _, _, _, _, _, rfl, .ty _, hv.ty A.W, k_list _, _, rfl, iteY (by simp [kitD, tyN]) ?_⟩
      obtain ⟨b, r, rfl, nb, hb, hr1⟩ := hv.lstE
      have hl := hr1.len
      have hdd : dep (.list ds) = 1 + depL ds := by rw [dep]
      have hss : sz (.list ds) = 1 + szL ds := by rw [sz]
      have hlen := szL_len ds
      refine ⟨_, rfl, b, rfl, ⟨_, SqL.of hb⟩, fun D nD => ?_⟩
      refine lc_dataL (M := M) (K := K) (a := b) (xs := r) ds hl nD (SqL.of hb) (by omega) ?_ ?_
      · intro i x dx H3 acc R hx hdx a3 hD k
        have hdl : dx ∈ ds := List.mem_of_getElem? hdx
        obtain ⟨x', hx', isx⟩ := hr1.get hdx
        rw [hx] at hx'
        cases hx'
        have d1 := dep_mem hdl
        have d2 := sz_mem hdl
        refine ⟨rfl, x, rfl, x, dx, D :: M, rfl, ?_, (isx.fresh nD).adv (a3.more (by simp)), by omega, by omega, fun v' H4 h4 a4 => ?_⟩
        · intro c hc
          rcases List.mem_cons.mp hc with e | hc
          · rw [e, hD]; simp
          · cases e : H c with
            | none => exact absurd e (hM c hc)
            | some o => rw [a3.same _ _ e]; simp
        · exact k v' H4 (a4.same _ _ hD) (a4.more (by simp)) h4
      · intro H3 acc a3 hD hacc
        exact q _ _ (Is.lst hD (not_mem_new hM nD) (hacc.less (by simp +contextual))) a3
    | tuple ds =>
      refine iteN (by simp [kitD, tyN]) ?_
      refine ⟨_, rfl, _, _, _, _, _, rfl, .ty _, hv.ty A.W, k_list _, _, rfl, iteN (by simp [kitD, tyN]) ?_⟩
      refine ⟨_, rfl, _, _, _, _, _, rfl, .ty _, hv.ty A.W, k_tuple _, _, rfl, iteY (by simp [kitD, tyN]) ?_⟩
      obtain ⟨b, r, rfl, hb, hr1⟩ := hv.tupE
      have hl := hr1.len
      have hdd : dep (.tuple ds) = 1 + depL ds := by rw [dep]
      have hss : sz (.tuple ds) = 1 + szL ds := by rw [sz]
      have hlen := szL_len ds
      refine ⟨_, rfl, b, rfl, ⟨_, hb.sq A.W⟩, fun D nD => ?_⟩
      refine lc_dataT (M := M) (K := K) (a := b) (xs := r) ds hl nD (hb.sq A.W) (by omega) ?_ ?_
      · intro i x dx H3 acc R hx hdx a3 hD k
        have hdl : dx ∈ ds := List.mem_of_getElem? hdx
        obtain ⟨x', hx', isx⟩ := hr1.get hdx
        rw [hx] at hx'
        cases hx'
        have d1 := dep_mem hdl
        have d2 := sz_mem hdl
        refine ⟨rfl, x, rfl, x, dx, D :: M, rfl, ?_, (isx.fresh nD).adv (a3.more (by simp)), by omega, by omega, fun v' H4 h4 a4 => ?_⟩
        · intro c hc
          rcases List.mem_cons.mp hc with e | hc
          · rw [e, hD]; simp
          · cases e : H c with
            | none => exact absurd e (hM c hc)
            | some o => rw [a3.same _ _ e]; simp
        · exact k v' H4 (a4.same _ _ hD) (a4.more (by simp)) h4
      · intro H3 acc a3 hD hacc
        refine ⟨D, acc, rfl, .inl ⟨SqL.of hD, fun l nl => ?_⟩⟩
        have aN : Adv [] H3 (upd H3 l (.tup acc)) := Adv.new nl
        exact q _ _ (Is.tup upd_same (not_mem_new hM (a3.free (by simp) nl)) ((hacc.less (by simp +contextual)).adv (aN.more (by simp)))) (a3.trans aN)
    | none =>
      refine iteN (by simp [kitD, tyN]) ?_
      refine ⟨_, rfl, _, _, _, _, _, rfl, .ty _, hv.ty A.W, k_list _, _, rfl, iteN (by simp [kitD, tyN]) ?_⟩
      refine ⟨_, rfl, _, _, _, _, _, rfl, .ty _, hv.ty A.W, k_tuple _, _, rfl, iteN (by simp [kitD, tyN]) ?_⟩
      exact ⟨_, rfl, q _ _ hv (Adv.refl _ _)⟩
    | bool _ =>
      refine iteN (by simp [kitD, tyN]) ?_
      refine ⟨_, rfl, _, _, _, _, _, rfl, .ty _, hv.ty A.W, k_list _, _, rfl, iteN (by simp [kitD, tyN]) ?_⟩
      refine ⟨_, rfl, _, _, _, _, _, rfl, .ty _, hv.ty A.W, k_tuple _, _, rfl, iteN (by simp [kitD, tyN]) ?_⟩
      exact ⟨_, rfl, q _ _ hv (Adv.refl _ _)⟩
    | int _ =>
      refine iteN (by simp [kitD, tyN]) ?_
      refine ⟨_, rfl, _, _, _, _, _, rfl, .ty _, hv.ty A.W, k_list _, _, rfl, iteN (by simp [kitD, tyN]) ?_⟩
      refine ⟨_, rfl, _, _, _, _, _, rfl, .ty _, hv.ty A.W, k_tuple _, _, rfl, iteN (by simp [kitD, tyN]) ?_⟩
      exact ⟨_, rfl, q _ _ hv (Adv.refl _ _)⟩
    | str _ =>
      refine iteN (by simp [kitD, tyN]) ?_
      refine ⟨_, rfl, _, _, _, _, _, rfl, .ty _, hv.ty A.W, k_list _, _, rfl, iteN (by simp [kitD, tyN]) ?_⟩
      refine ⟨_, rfl, _, _, _, _, _, rfl, .ty _, hv.ty A.W, k_tuple _, _, rfl, iteN (by simp [kitD, tyN]) ?_⟩
      exact ⟨_, rfl, q _ _ hv (Adv.refl _ _)⟩

theorem ok_law_copy (A : All K mg w) : ∀ n : Nat, FnOk P w K mg base CX0 (n + 1) A.law_copy.f A.law_copy.fd ["value"] (spCopy n)
  | 0 => copy_0 A
  | n + 1 => copy_s A (ok_law_copy A n)
end
end K60

set_option Elab.async false
set_option linter.all false
set_option maxRecDepth 100000
set_option maxHeartbeats 400000
namespace K60
open PySem PySem.Spec PyProof.Rows L2 LL
section
variable [KW]
variable {P : Program} {w : World} {K : PySem.W.Frag} {mg : Str → Option Value} {base : Heap}
/-! ### _law_row, by the book's content -/
structure RowP (vs : List V) (H : Hp) (Q : VK) : Prop where
  ex : ∃ (M : List Addr) (bk b0 b1 nd : Addr) (ns : List Nd) (n : Nd), vs = [.ref bk, .ref nd] ∧ H bk = some (.lst [.ref b0, .ref b1]) ∧ bk ∉ M ∧ BkN M H b0 b1 ns ∧ Tp M H nd (n.keys.map kV) ∧ ns.length ≤ 1000000 ∧
  ∀ H', BkN M H' b0 b1 (rowF ns n).2 → Adv [b0, b1] H H' → Q (.int ((rowF ns n).1 : Nat)) H'
def spRowN : Sp := fun vs H Q _ => RowP vs H Q
theorem ok_law_row (A : All K mg w) : FnOk P w K mg base CX0 1 A.law_row.f A.law_row.fd ["book", "node"] spRowN := by
  refine A.law_row.F.ok sc_law_row (fun vs H Q E h => ?_) (fun cdv Ar outer s H vs Q E hr h => ?_)
  · obtain ⟨M, bk, b0, b1, nd, ns, n, rfl, _⟩ := h.ex
    rfl
  · obtain ⟨M, bk, b0, b1, nd, ns, n, rfl, hbk, kM, B, hnd, hl, q⟩ := h.ex
    refine ⟨_, (pss_cons (ps_if (pt_cmp (pc_dnotinX A.W (hu_of hr) (pv 1) (pe_ix ix_list (pv 0) pe_int (fun _ _ => rfl))))
    (pss_cons (ps_dputX A.W (hu_of hr) (pe_ix ix_list (pv 0) pe_int (fun _ _ => rfl)) (pv 1) (pe_callB call_len_seq (by rfl) A.T.len PySem.boot_len (pa_cons (pe_ix ix_list (pv 0) pe_int (fun _ _ => rfl)) pa_nil)) rfl)
  (pss_one (ps_expr (pe_bm PySem.F.plainAttrs_list PySem.F.slot_list_append PySem.F.type_list_append mt_append (pe_ix ix_list (pv 0) pe_int (fun _ _ => rfl)) (pa_cons (pv 1) pa_nil)))))
    pss_nil)
  (pss_one (ps_ret (pe_dgetX A.W (hu_of hr) (pe_ix ix_list (pv 0) pe_int (fun _ _ => rfl)) (pv 1) (fun _ _ => rfl))))), ?_⟩
    obtain ⟨⟨rs, r0, rd⟩, r1, m0, m1, n01, al⟩ := id B
    have hrl : rs.length = ns.length := by have := rd.len; rw [List.length_map] at this; exact this
    have i0 : atI [V.ref b0, .ref b1] 0 = some (.ref b0) := atI_nat (j := 0) rfl
    have i1 : atI [V.ref b0, .ref b1] 1 = some (.ref b1) := atI_nat (j := 1) rfl
    have hv := tab_val 0 ns n
    refine ⟨_, rfl, _, rfl, bk, _, 1, _, rfl, rfl, SqL.of hbk, i1, b1, _, rfl, r1.get A.W hnd, _, rfl, ?_⟩
    by_cases hm : n ∈ ns
    · rw [if_pos hm, Nat.zero_add] at hv
      rw [hv]
      refine iteN rfl ?_
      refine ⟨_, rfl, bk, _, 1, _, rfl, rfl, SqL.of hbk, i1, _, rfl, b1, .int (ns.idxOf n : Nat), rfl, by have := r1.get A.W hnd; rw [hv] at this; exact this, ?_⟩
      unfold rowF at q
      rw [if_pos hm] at q
      exact q H B (Adv.refl _ _)
    · rw [if_neg hm] at hv
      rw [hv]
      refine iteY rfl ?_
      obtain ⟨o, hg, B2⟩ := B.push A.W r0 hnd hm (by rw [sizeLine_eq]; omega)
      refine ⟨_, rfl, bk, _, 0, _, rfl, rfl, SqL.of hbk, i0, b0, rs, rfl, .inl (SqL.of r0), ?_⟩
      refine ⟨_, rfl, bk, _, 1, _, rfl, rfl, SqL.of hbk, i1, _, rfl, b1, _, rfl, hg, ?_⟩
      have kb1 : bk ≠ b1 := fun z => kM (by rw [z]; exact m1)
      have kb0 : bk ≠ b0 := fun z => kM (by rw [z]; exact m0)
      have hbk1 : (upd H b1 o) bk = some (.lst [.ref b0, .ref b1]) := by rw [upd_ne kb1]; exact hbk
      have r01 : (upd H b1 o) b0 = some (.lst rs) := by rw [upd_ne n01]; exact r0
      refine ⟨_, rfl, bk, _, 0, _, rfl, rfl, SqL.of hbk1, i0, .inl ⟨rfl, _, SqL.of r01⟩, _, rfl, b0, rs, _, rfl, rfl, r01, by rw [sizeLine_eq]; omega, ?_⟩
      have aa : Adv [b0, b1] H (upd (upd H b1 o) b0 (.lst (rs ++ [.ref nd]))) := (Adv.set (by simp)).trans (Adv.set (by simp))
      have hbk2 : (upd (upd H b1 o) b0 (.lst (rs ++ [.ref nd]))) bk = some (.lst [.ref b0, .ref b1]) := by rw [upd_ne kb0]; exact hbk1
      have hnd2 := hnd.adv (aa.more (by simp [m0, m1]))
      have hval : valV (tabG 0 (ns ++ [n])) n.keys = some (.int (ns.length : Nat)) := by
        rw [tab_val, if_pos (by simp), Nat.zero_add, List.idxOf_append, if_neg hm]
        simp [List.idxOf_cons]
      refine ⟨_, rfl, bk, _, 1, _, rfl, rfl, SqL.of hbk2, i1, _, rfl, b1, _, rfl, by have := B2.tab.get A.W hnd2; rw [hval] at this; exact this, ?_⟩
      unfold rowF at q
      rw [if_neg hm] at q
      exact q _ B2 aa
end
end K60

set_option Elab.async false
set_option linter.all false
set_option maxRecDepth 100000
set_option maxHeartbeats 400000
namespace K60
open PySem PySem.Spec PyProof.Rows L2 LL
section
variable [KW]
variable {P : Program} {w : World} {K : PySem.W.Frag} {mg : Str → Option Value} {base : Heap}
theorem row_callN {M : List Addr} {H : Hp} {bk b0 b1 p : Addr} {ns : List Nd} {Q : VK} (n : Nd) (hbk : H bk = some (.lst [.ref b0, .ref b1])) (kM : bk ∉ M) (B : BkN M H b0 b1 ns) (hp : H p = none) (hl : ns.length ≤ 1000000)
    (q : ∀ H', H' bk = some (.lst [.ref b0, .ref b1]) → BkN M H' b0 b1 (rowF ns n).2 → Adv [b0, b1] H H' → Q (.int ((rowF ns n).1 : Nat)) H') : RowP [.ref bk, .ref p] (upd H p (.tup (n.keys.map kV))) Q := by
  have a : Adv [] H (upd H p (.tup (n.keys.map kV))) := Adv.new hp
  have kk : bk ∉ [b0, b1] := fun z => by
    rcases List.mem_cons.mp z with z | z
    · exact kM (by rw [z]; exact B.m0)
    · exact kM (by rw [List.mem_singleton.mp z]; exact B.m1)
  have hbk1 := a.same _ _ hbk
  exact ⟨⟨M, bk, b0, b1, p, ns, n, rfl, hbk1, kM, B.same a, Tp.of upd_same (not_mem_new B.al hp), hl, fun H' B' a' => q H' (a' _ _ kk hbk1) B' ((Adv.nil a).trans a')⟩⟩
/-! ### _law_not -/
def spNotN : Sp := fun vs H Q _ => ∃ (M : List Addr) (bk b0 b1 : Addr) (ns : List Nd) (r : Nat), vs = [.ref bk, .int r] ∧ H bk = some (.lst [.ref b0, .ref b1]) ∧ bk ∉ M ∧ BkN M H b0 b1 ns ∧ ns.length ≤ 900000 ∧
  ∀ H', BkN M H' b0 b1 (denyF ns r).2 → Adv [b0, b1] H H' → Q (.int ((denyF ns r).1 : Nat)) H'
theorem ok_law_not (A : All K mg w) : FnOk P w K mg base CX0 2 A.law_not.f A.law_not.fd ["book", "row"] spNotN := by
  refine A.law_not.F.ok sc_law_not (fun vs H Q E h => ?_) (fun cdv Ar outer s H vs Q E hr h => ?_)
  · obtain ⟨M, bk, b0, b1, ns, r, rfl, _⟩ := h
    rfl
  · obtain ⟨M, bk, b0, b1, ns, r, rfl, hbk, kM, B, hl, q⟩ := h
    refine ⟨_, (pss_one (ps_ret (pe_call (ok_law_row A) (hr.mono (by omega)) rfl A.law_row.m A.law_row.F.kp A.law_row.b .nil pass0 (pa_cons (pv 0) (pa_cons (pe_tup (pa_cons pe_str (pa_cons (pv 1) (pa_cons (pe_call (ok_law_row A) (hr.mono (by omega)) rfl A.law_row.m A.law_row.F.kp A.law_row.b .nil pass0 (pa_cons (pv 0) (pa_cons (pe_tup (pa_cons pe_str pa_nil)) pa_nil))) pa_nil)))) pa_nil))))), ?_⟩
    refine ⟨_, rfl, _, rfl, _, rfl, by show 1 ≤ sizeLine; decide, fun p np => ?_⟩
    refine row_callN .no hbk kM B np (by omega) fun H1 hbk1 B1 a1 => ?_
    refine ⟨by show 3 ≤ sizeLine; decide, fun p2 np2 => ?_⟩
    have hl1 : (rowF ns .no).2.length ≤ ns.length + 1 := by
      unfold rowF
      split <;> simp
    exact row_callN (.bin .imp r (rowF ns .no).1) hbk1 kM B1 np2 (by omega) fun H2 hbk2 B2 a2 => q H2 B2 (a1.trans a2)
end
end K60

set_option Elab.async false
set_option linter.all false
set_option maxRecDepth 100000
set_option maxHeartbeats 400000
namespace K60
open PySem PySem.Spec PyProof.Rows L2 LL
section
variable [KW]
variable {P : Program} {w : World} {K : PySem.W.Frag} {mg : Str → Option Value} {base : Heap}
theorem atI_nat0 {xs : List V} {j : Nat} {v : V} (h : xs[j]? = some v) : atI xs (0 + (j : Nat)) = some v := by
  rw [Int.zero_add]
  exact atI_nat h
theorem ixN_of {n j : Nat} (h : j < n) : ixN n (j : Int) = some j := by
  unfold ixN
  rw [if_pos (Int.natCast_nonneg j), if_pos (by omega), Int.toNat_natCast]
def nV (l : List Nat) : List V := l.map fun i => V.int (i : Nat)
structure PartsP (tup : Bool) (vs : List V) (H : Hp) (Q : VK) : Prop where
  ex : ∃ (M : List Addr) (a : Addr) (n : Nd), vs = [.ref a] ∧ Tp M H a (n.keys.map kV) ∧ ∀ l H', H l = none → H' l = some (if tup = true then .tup (nV n.parts) else .lst (nV n.parts)) → Adv [] H H' → Q (.ref l) H'
def spParts (tup : Bool) : Sp := fun vs H Q _ => PartsP tup vs H Q
theorem ok_law_parts (A : All K mg w) : FnOk P w K mg base CX0 1 A.law_parts.f A.law_parts.fd ["node"] (spParts false) := by
  refine A.law_parts.F.ok sc_law_parts (fun vs H Q E h => ?_) (fun cdv Ar outer s H vs Q E hr h => ?_)
  · obtain ⟨M, a, n, rfl, _⟩ := h.ex
    rfl
  · obtain ⟨M, a, n, rfl, ha, q⟩ := h.ex
    refine ⟨_, (pss_one (ps_ret (pe_ifExp (pt_cmpR op_eq (pe_ix ix_tup (pv 0) pe_int (fun _ _ => rfl)) pe_str (nomark _)) (pe_lst pa_nil) (pe_callTy call_list_of (by rfl) A.T.list (by decide +kernel) (pa_cons (pe_slice sl_tup (pv 0) (po_some pe_int) po_none) pa_nil))))), ?_⟩
    have ha0 : SqT K H a (n.keys.map kV) := ha.sq A.W
    cases n with
    | letter i =>
      refine ⟨_, rfl, a, _, 0, _, rfl, rfl, ha0, atI_nat (j := 0) rfl, rfl, _, rfl, iteY (by decide) ⟨by show 0 ≤ sizeLine; exact Nat.zero_le _, fun p np => ?_⟩⟩
      exact q p _ np upd_same (Adv.new np)
    | no =>
      refine ⟨_, rfl, a, _, 0, _, rfl, rfl, ha0, atI_nat (j := 0) rfl, rfl, _, rfl, iteN (by decide) ?_⟩
      refine ⟨_, rfl, 1, rfl, a, _, rfl, ha0, by decide, fun p np => ?_⟩
      refine ⟨p, _, rfl, .inr (SqT.of upd_same), fun l nl => ?_⟩
      exact q l _ ((Adv.new (M := []) np).free (by simp) nl) upd_same ((Adv.new np).trans (Adv.new nl))
    | bin o j k =>
      refine ⟨_, rfl, a, _, 0, _, rfl, rfl, ha0, atI_nat (j := 0) rfl, rfl, _, rfl, iteN (by cases o <;> decide) ?_⟩
      refine ⟨_, rfl, 1, rfl, a, _, rfl, ha0, by simp [Nd.keys, HT.sIx], fun p np => ?_⟩
      refine ⟨p, _, rfl, .inr (SqT.of upd_same), fun l nl => ?_⟩
      refine q l _ ((Adv.new (M := []) np).free (by simp) nl) ?_ ((Adv.new np).trans (Adv.new nl))
      rw [upd_same, cut_from1]
      rfl
    | box j =>
      refine ⟨_, rfl, a, _, 0, _, rfl, rfl, ha0, atI_nat (j := 0) rfl, rfl, _, rfl, iteN (by decide) ?_⟩
      refine ⟨_, rfl, 1, rfl, a, _, rfl, ha0, by simp [Nd.keys, HT.sIx], fun p np => ?_⟩
      refine ⟨p, _, rfl, .inr (SqT.of upd_same), fun l nl => ?_⟩
      refine q l _ ((Adv.new (M := []) np).free (by simp) nl) ?_ ((Adv.new np).trans (Adv.new nl))
      rw [upd_same, cut_from1]
      rfl
theorem ok_parts (A : All K mg w) : FnOk P w K mg base CX0 1 A.parts.f A.parts.fd ["node"] (spParts true) := by
  refine A.parts.F.ok sc_parts (fun vs H Q E h => ?_) (fun cdv Ar outer s H vs Q E hr h => ?_)
  · obtain ⟨M, a, n, rfl, _⟩ := h.ex
    rfl
  · obtain ⟨M, a, n, rfl, ha, q⟩ := h.ex
    refine ⟨_, (pss_cons (ps_if (pt_cmpR op_eq (pe_ix ix_tup (pv 0) pe_int (fun _ _ => rfl)) pe_str (nomark _))
    (pss_one (ps_ret (pe_tup pa_nil)))
    pss_nil)
  (pss_one (ps_ret (pe_slice sl_tup (pv 0) (po_some pe_int) po_none)))), ?_⟩
    have ha0 : SqT K H a (n.keys.map kV) := ha.sq A.W
    cases n with
    | letter i =>
      refine ⟨_, rfl, a, _, 0, _, rfl, rfl, ha0, atI_nat (j := 0) rfl, rfl, _, rfl, iteY (by decide) ⟨by show 0 ≤ sizeLine; exact Nat.zero_le _, fun p np => ?_⟩⟩
      exact q p _ np upd_same (Adv.new np)
    | no =>
      refine ⟨_, rfl, a, _, 0, _, rfl, rfl, ha0, atI_nat (j := 0) rfl, rfl, _, rfl, iteN (by decide) ?_⟩
      exact ⟨_, rfl, 1, rfl, a, _, rfl, ha0, by decide, fun p np => q p _ np upd_same (Adv.new np)⟩
    | bin o j k =>
      refine ⟨_, rfl, a, _, 0, _, rfl, rfl, ha0, atI_nat (j := 0) rfl, rfl, _, rfl, iteN (by cases o <;> decide) ?_⟩
      refine ⟨_, rfl, 1, rfl, a, _, rfl, ha0, by simp [Nd.keys, HT.sIx], fun p np => q p _ np ?_ (Adv.new np)⟩
      rw [upd_same, cut_from1]
      rfl
    | box j =>
      refine ⟨_, rfl, a, _, 0, _, rfl, rfl, ha0, atI_nat (j := 0) rfl, rfl, _, rfl, iteN (by decide) ?_⟩
      refine ⟨_, rfl, 1, rfl, a, _, rfl, ha0, by simp [Nd.keys, HT.sIx], fun p np => q p _ np ?_ (Adv.new np)⟩
      rw [upd_same, cut_from1]
      rfl
/-! ### _law_below -/
structure BelP (vs : List V) (H : Hp) (Q : VK) : Prop where
  ex : ∃ (sh rw_ : Addr) (ns : List Nd) (rs : List V) (rows : List Nat) (boxed : Bool), vs = [.ref sh, .ref rw_] ∧ H sh = some (.lst rs) ∧ IsDs [] H (ns.map Nd.data) rs ∧ H rw_ = some (.lst (nV rows)) ∧ (∀ r ∈ rows, r < ns.length) ∧ okSheet boxed ns ∧ ns.length ≤ 80000 ∧ rows.length ≤ 80000 ∧
    ∀ l H', H l = none → H' l = some (.lst (nV (belowF ns rows))) → Adv [] H H' → Q (.ref l) H'
def spBelow : Sp := fun vs H Q _ => BelP vs H Q
theorem ok_law_below (A : All K mg w) : FnOk P w K mg base CX0 2 A.law_below.f A.law_below.fd ["sheet", "rows"] spBelow := by
  refine A.law_below.F.ok sc_law_below (fun vs H Q E h => ?_) (fun cdv Ar outer s H vs Q E hr h => ?_)
  · obtain ⟨sh, rw_, ns, rs, rows, boxed, rfl, _⟩ := h.ex
    rfl
  · obtain ⟨sh, rw_, ns, rs, rows, boxed, rfl, hsh, hds, hrw, hrows, ok, hl, hl2, q⟩ := h.ex
    refine ⟨_, (pss_cons (ps_set (i := 2) sc_law_below.nd rfl (Or.inr rfl) (pe_op op_rep (pe_lst (pa_cons pe_bl pa_nil)) (pe_callB call_len_seq (by rfl) A.T.len PySem.boot_len (pa_cons (pv 0) pa_nil))))
  (pss_cons (ps_for PassesOwn.never rfl (pi_list (pv 1)) (pg_name (i := 3) sc_law_below.nd rfl (Or.inl rfl))
    (pss_one (ps_asg pe_bl (pg_sub (pv 2) (pv 3) set_list))))
  (pss_cons (ps_for PassesOwn.never rfl (pi_range3 rfl A.T.range (pa_cons (pe_op op_sub (pe_callB call_len_seq (by rfl) A.T.len PySem.boot_len (pa_cons (pv 0) pa_nil)) pe_int) (pa_cons (pe_un un_neg pe_int) (pa_cons (pe_un un_neg pe_int) pa_nil)))) (pg_name (i := 4) sc_law_below.nd rfl (Or.inl rfl))
    (pss_one (ps_if (pt_val (pe_ix (ix_any K rfl) (pv 2) (pv 4) (fun _ _ => rfl)))
    (pss_one (ps_for PassesOwn.never rfl (pi_list (pe_call (ok_law_parts A) (hr.mono (by omega)) rfl A.law_parts.m A.law_parts.F.kp A.law_parts.b .nil pass0 (pa_cons (pe_ix ix_list (pv 0) (pv 4) (fun _ _ => rfl)) pa_nil))) (pg_name (i := 5) sc_law_below.nd rfl (Or.inl rfl))
    (pss_one (ps_asg pe_bl (pg_sub (pv 2) (pv 5) set_list)))))
    pss_nil)))
  (pss_one (ps_ret (pe_lc (own := [("at", 4)]) (g := gName 4) rfl sc_law_below.nd (pi_range1 rfl A.T.range (pa_cons (pe_callB call_len_seq (by rfl) A.T.len PySem.boot_len (pa_cons (pv 0) pa_nil)) pa_nil)) (blkOk_by (own := [("at", 4)]) (N := ["sheet", "rows", "marked", "row", "at", "part"]) (sc := defScope s_law_below) (by decide +kernel)) (fun _ _ _ _ _ => pg_name (i := 4) sc_law_below.nd rfl (Or.inl rfl)) (fun _ _ _ _ _ => pts_one (pt_val (pe_ix (ix_any K rfl) (pv 2) (pv 4) (fun _ _ => rfl)))) (fun _ _ _ _ _ => (pv 4)))))))), ?_⟩
    have hrl := hds.len
    rw [List.length_map] at hrl
    refine ⟨by show 1 ≤ sizeLine; decide, fun p np => ?_⟩
    have ap : Adv [] H (upd H p (.lst [.bl false])) := Adv.new np
    refine ⟨_, rfl, sh, rs, rfl, .inl (SqL.of (ap.same _ _ hsh)), p, (rs.length : Nat), [.bl false], rfl, rfl, upd_same, by omega, by omega, by rw [sizeLine_eq]; simp; omega, fun D nD => ?_⟩
    have e : (List.replicate ((rs.length : Nat) : Int).toNat [V.bl false]).flatten = mbV (fun _ => false) ns.length := by rw [Int.toNat_natCast, hrl]; exact mb_zero _
    rw [e]
    have aD : Adv [] H (upd (upd H p (.lst [.bl false])) D (.lst (mbV (fun _ => false) ns.length))) := ap.newT nD
    have nD0 : H D = none := ap.free (by simp) nD
    refine ⟨_, rfl, rw_, rfl, ⟨_, SqL.of (aD.same _ _ hrw)⟩, ?_⟩
    refine for_list (a := rw_) (xs := nV rows) (fun i σ' H' => ∃ x3 x4 x5, σ' = [some (.ref sh), some (.ref rw_), some (.ref D), x3, x4, x5] ∧ H' D = some (.lst (mbV (markP (fun _ => false) (rows.take i)) ns.length)) ∧ Adv [] H H')
      ⟨none, none, none, rfl, by rw [upd_same, List.take_zero, markP_nil], aD⟩ ?_ ?_ ?_
    · rintro i σ' H' hi ⟨x3, x4, x5, rfl, hD, a⟩
      exact SqL.of (a.same _ _ hrw)
    · rintro i x σ' H' hx ⟨x3, x4, x5, rfl, hD, a⟩
      obtain ⟨r, hr1, rfl⟩ : ∃ r, rows[i]? = some r ∧ V.int (r : Nat) = x := by
        unfold nV at hx
        rw [List.getElem?_map, Option.map_eq_some_iff] at hx
        exact hx
      have hrn := hrows r (List.mem_of_getElem? hr1)
      refine ⟨_, rfl, _, rfl, D, _, _, r, rfl, rfl, hD, ixN_of (by rw [mb_len]; exact hrn), ?_⟩
      refine ⟨_, _, _, rfl, ?_, a.mut nD0⟩
      rw [upd_same, mb_set, markP_snoc, List.take_succ, hr1]
      rfl
    · rintro σ' H' ⟨x3, x4, x5, rfl, hD, a⟩
      have et : rows.take (nV rows).length = rows := by unfold nV; rw [List.length_map, List.take_length]
      rw [et] at hD
      refine ⟨_, rfl, sh, rs, rfl, .inl (SqL.of (a.same _ _ hsh)), _, _, rfl, rfl, 1, rfl, 1, rfl, (rs.length : Int) - 1, -1, -1, _, rfl, RgC.neg (by omega) (by omega) (by omega) (by omega), ?_⟩
      have en : ((rs.length : Int) - 1 - -1).toNat = ns.length := by omega
      rw [en]
      refine for_rangeC (lo := (rs.length : Int) - 1) (c := -1) (n := ns.length) (fun i σ' H' => ∃ x3 x4 x5 m, σ' = [some (.ref sh), some (.ref rw_), some (.ref D), x3, x4, x5] ∧ H' D = some (.lst (mbV m ns.length)) ∧ markDown ns ns.length (markP (fun _ => false) rows) = markDown ns (ns.length - i) m ∧ Adv [] H H')
        ⟨_, _, _, _, rfl, hD, rfl, a⟩ ?_ ?_
      · rintro i σ' H1 hi ⟨x3, x4, x5, m, rfl, hD, hm, a⟩
        obtain ⟨k, hk⟩ : ∃ k, ns.length - i = k + 1 := ⟨ns.length - i - 1, by omega⟩
        have ek : (rs.length : Int) - 1 + (i : Nat) * -1 = (k : Nat) := by omega
        rw [ek]
        have hkn : k < ns.length := by omega
        have ek2 : ns.length - (i + 1) = k := by omega
        rw [hk] at hm
        have hnk : ns[k]? = some ns[k] := List.getElem?_eq_getElem hkn
        refine ⟨_, rfl, _, rfl, .inl ⟨D, _, (k : Nat), _, rfl, rfl, SqL.of hD, atI_nat (mb_at hkn), m k, rfl, iteB (fun e => ?_) (fun e => ?_)⟩⟩
        · obtain ⟨v, hv, isv⟩ := hds.get (i := k) (d := (ns[k]).data) (by rw [List.getElem?_map, hnk]; rfl)
          obtain ⟨b, rfl, hb⟩ := nd_is isv
          refine ⟨_, rfl, _, rfl, sh, rs, (k : Nat), _, rfl, rfl, SqL.of (a.same _ _ hsh), atI_nat hv, [], b, ns[k], rfl, hb.adv a, fun l H2 nl hl a2 => ?_⟩
          have hl' : H2 l = some (.lst (nV (ns[k]).parts)) := hl
          have aH2 := a.trans a2
          have nl0 : l ≠ D := fun z => by rw [z, hD] at nl; cases nl
          refine ⟨l, rfl, ⟨_, SqL.of hl'⟩, ?_⟩
          refine for_list (a := l) (xs := nV (ns[k]).parts) (fun j σ' H' => ∃ x5, σ' = [some (.ref sh), some (.ref rw_), some (.ref D), x3, some (.int (k : Nat)), x5] ∧ H' D = some (.lst (mbV (markP m ((ns[k]).parts.take j)) ns.length)) ∧ H' l = some (.lst (nV (ns[k]).parts)) ∧ Adv [] H H')
            ⟨_, rfl, by rw [List.take_zero, markP_nil]; exact a2.same _ _ hD, hl', aH2⟩ ?_ ?_ ?_
          · rintro j σ' H' hj ⟨x5, rfl, hD', hl2, a'⟩
            exact SqL.of hl2
          · rintro j x σ' H' hx ⟨x5, rfl, hD', hl2, a'⟩
            obtain ⟨r, hr1, rfl⟩ : ∃ r, (ns[k]).parts[j]? = some r ∧ V.int (r : Nat) = x := by
              unfold nV at hx
              rw [List.getElem?_map, Option.map_eq_some_iff] at hx
              exact hx
            have hrn := parts_lt (ok.2 k _ hnk) r (List.mem_of_getElem? hr1)
            refine ⟨_, rfl, _, rfl, D, _, _, r, rfl, rfl, hD', ixN_of (by rw [mb_len]; omega), ?_⟩
            refine ⟨_, rfl, ?_, by rw [upd_ne nl0]; exact hl2, a'.mut nD0⟩
            rw [upd_same, mb_set, markP_snoc, List.take_succ, hr1]
            rfl
          · rintro σ' H' ⟨x5, rfl, hD', hl2, a'⟩
            have et : (ns[k]).parts.take (nV (ns[k]).parts).length = (ns[k]).parts := by unfold nV; rw [List.length_map, List.take_length]
            rw [et] at hD'
            refine ⟨_, _, _, _, rfl, hD', ?_, a'⟩
            rw [hm, ek2]
            show markDown ns k (if m k = true then markP m ((ns[k]?.getD .no).parts) else m) = _
            rw [if_pos e, hnk]
            rfl
        · refine ⟨_, _, _, m, rfl, hD, ?_, a⟩
          rw [hm, ek2]
          show markDown ns k (if m k = true then markP m ((ns[k]?.getD .no).parts) else m) = _
          rw [if_neg (by rw [e]; decide)]
      · rintro σ' H1 ⟨x3, x4, x5, m, rfl, hD, hm, a⟩
        rw [Nat.sub_self] at hm
        have hm' : marked ns rows = m := hm
        refine ⟨_, rfl, sh, rs, rfl, .inl (SqL.of (a.same _ _ hsh)), _, rfl, by omega, by omega, fun L nL => ?_⟩
        refine lc_filtR (n := ((rs.length : Nat) : Int).toNat) (fun i => V.int (i : Nat)) m nL (by omega) ?_ ?_
        · intro i H2 acc R R0 hi a2 hL k1 k0
          have hi' : i < ns.length := by omega
          have hD2 := a2.same _ _ hD
          refine ⟨rfl, _, rfl, _, rfl, .inl ⟨D, _, _, _, rfl, rfl, SqL.of hD2, atI_nat0 (mb_at hi'), m i, rfl, iteB (fun e => ?_) (fun e => k0 e H2 hL a2)⟩⟩
          refine ⟨_, rfl, ?_⟩
          rw [Int.zero_add]
          exact k1 e H2 hL a2
        · intro H2 a2 hL
          refine q L H2 (a.free (by simp) nL) ?_ (a.trans a2)
          rw [hL]
          unfold belowF nV
          rw [hm', Int.toNat_natCast, hrl]
/-! ### rows_below -/
theorem ok_rows_below (A : All K mg w) : FnOk P w K mg base CX0 2 A.rows_below.f A.rows_below.fd ["sheet", "rows"] spBelow := by
  refine A.rows_below.F.ok sc_rows_below (fun vs H Q E h => ?_) (fun cdv Ar outer s H vs Q E hr h => ?_)
  · obtain ⟨sh, rw_, ns, rs, rows, boxed, rfl, _⟩ := h.ex
    rfl
  · obtain ⟨sh, rw_, ns, rs, rows, boxed, rfl, hsh, hds, hrw, hrows, ok, hl, hl2, q⟩ := h.ex
    refine ⟨_, (pss_cons (ps_set (i := 2) sc_rows_below.nd rfl (Or.inr rfl) (pe_op op_rep (pe_lst (pa_cons pe_bl pa_nil)) (pe_callB call_len_seq (by rfl) A.T.len PySem.boot_len (pa_cons (pv 0) pa_nil))))
  (pss_cons (ps_for PassesOwn.never rfl (pi_list (pv 1)) (pg_name (i := 3) sc_rows_below.nd rfl (Or.inl rfl))
    (pss_one (ps_asg pe_bl (pg_sub (pv 2) (pv 3) set_list))))
  (pss_cons (ps_for PassesOwn.never rfl (pi_range3 rfl A.T.range (pa_cons (pe_op op_sub (pe_callB call_len_seq (by rfl) A.T.len PySem.boot_len (pa_cons (pv 0) pa_nil)) pe_int) (pa_cons (pe_un un_neg pe_int) (pa_cons (pe_un un_neg pe_int) pa_nil)))) (pg_name (i := 3) sc_rows_below.nd rfl (Or.inl rfl))
    (pss_one (ps_if (pt_val (pe_ix (ix_any K rfl) (pv 2) (pv 3) (fun _ _ => rfl)))
    (pss_one (ps_for PassesOwn.never rfl (pi_tup (pe_call (ok_parts A) (hr.mono (by omega)) rfl A.parts.m A.parts.F.kp A.parts.b .nil pass0 (pa_cons (pe_ix ix_list (pv 0) (pv 3) (fun _ _ => rfl)) pa_nil))) (pg_name (i := 4) sc_rows_below.nd rfl (Or.inl rfl))
    (pss_one (ps_asg pe_bl (pg_sub (pv 2) (pv 4) set_list)))))
    pss_nil)))
  (pss_one (ps_ret (pe_lc (own := [("row", 3)]) (g := gName 3) rfl sc_rows_below.nd (pi_range1 rfl A.T.range (pa_cons (pe_callB call_len_seq (by rfl) A.T.len PySem.boot_len (pa_cons (pv 0) pa_nil)) pa_nil)) (blkOk_by (own := [("row", 3)]) (N := ["sheet", "rows", "marked", "row", "part"]) (sc := defScope s_rows_below) (by decide +kernel)) (fun _ _ _ _ _ => pg_name (i := 3) sc_rows_below.nd rfl (Or.inl rfl)) (fun _ _ _ _ _ => pts_one (pt_val (pe_ix (ix_any K rfl) (pv 2) (pv 3) (fun _ _ => rfl)))) (fun _ _ _ _ _ => (pv 3)))))))), ?_⟩
    have hrl := hds.len
    rw [List.length_map] at hrl
    refine ⟨by show 1 ≤ sizeLine; decide, fun p np => ?_⟩
    have ap : Adv [] H (upd H p (.lst [.bl false])) := Adv.new np
    refine ⟨_, rfl, sh, rs, rfl, .inl (SqL.of (ap.same _ _ hsh)), p, (rs.length : Nat), [.bl false], rfl, rfl, upd_same, by omega, by omega, by rw [sizeLine_eq]; simp; omega, fun D nD => ?_⟩
    have e : (List.replicate ((rs.length : Nat) : Int).toNat [V.bl false]).flatten = mbV (fun _ => false) ns.length := by rw [Int.toNat_natCast, hrl]; exact mb_zero _
    rw [e]
    have aD : Adv [] H (upd (upd H p (.lst [.bl false])) D (.lst (mbV (fun _ => false) ns.length))) := ap.newT nD
    have nD0 : H D = none := ap.free (by simp) nD
    refine ⟨_, rfl, rw_, rfl, ⟨_, SqL.of (aD.same _ _ hrw)⟩, ?_⟩
    refine for_list (a := rw_) (xs := nV rows) (fun i σ' H' => ∃ x3 x4, σ' = [some (.ref sh), some (.ref rw_), some (.ref D), x3, x4] ∧ H' D = some (.lst (mbV (markP (fun _ => false) (rows.take i)) ns.length)) ∧ Adv [] H H')
      ⟨none, none, rfl, by rw [upd_same, List.take_zero, markP_nil], aD⟩ ?_ ?_ ?_
    · rintro i σ' H' hi ⟨x3, x4, rfl, hD, a⟩
      exact SqL.of (a.same _ _ hrw)
    · rintro i x σ' H' hx ⟨x3, x4, rfl, hD, a⟩
      obtain ⟨r, hr1, rfl⟩ : ∃ r, rows[i]? = some r ∧ V.int (r : Nat) = x := by
        unfold nV at hx
        rw [List.getElem?_map, Option.map_eq_some_iff] at hx
        exact hx
      have hrn := hrows r (List.mem_of_getElem? hr1)
      refine ⟨_, rfl, _, rfl, D, _, _, r, rfl, rfl, hD, ixN_of (by rw [mb_len]; exact hrn), ?_⟩
      refine ⟨_, _, rfl, ?_, a.mut nD0⟩
      rw [upd_same, mb_set, markP_snoc, List.take_succ, hr1]
      rfl
    · rintro σ' H' ⟨x3, x4, rfl, hD, a⟩
      have et : rows.take (nV rows).length = rows := by unfold nV; rw [List.length_map, List.take_length]
      rw [et] at hD
      refine ⟨_, rfl, sh, rs, rfl, .inl (SqL.of (a.same _ _ hsh)), _, _, rfl, rfl, 1, rfl, 1, rfl, (rs.length : Int) - 1, -1, -1, _, rfl, RgC.neg (by omega) (by omega) (by omega) (by omega), ?_⟩
      have en : ((rs.length : Int) - 1 - -1).toNat = ns.length := by omega
      rw [en]
      refine for_rangeC (lo := (rs.length : Int) - 1) (c := -1) (n := ns.length) (fun i σ' H' => ∃ x3 x4 m, σ' = [some (.ref sh), some (.ref rw_), some (.ref D), x3, x4] ∧ H' D = some (.lst (mbV m ns.length)) ∧ markDown ns ns.length (markP (fun _ => false) rows) = markDown ns (ns.length - i) m ∧ Adv [] H H')
        ⟨_, _, _, rfl, hD, rfl, a⟩ ?_ ?_
      · rintro i σ' H1 hi ⟨x3, x4, m, rfl, hD, hm, a⟩
        obtain ⟨k, hk⟩ : ∃ k, ns.length - i = k + 1 := ⟨ns.length - i - 1, by omega⟩
        have ek : (rs.length : Int) - 1 + (i : Nat) * -1 = (k : Nat) := by omega
        rw [ek]
        have hkn : k < ns.length := by omega
        have ek2 : ns.length - (i + 1) = k := by omega
        rw [hk] at hm
        have hnk : ns[k]? = some ns[k] := List.getElem?_eq_getElem hkn
        refine ⟨_, rfl, _, rfl, .inl ⟨D, _, (k : Nat), _, rfl, rfl, SqL.of hD, atI_nat (mb_at hkn), m k, rfl, iteB (fun e => ?_) (fun e => ?_)⟩⟩
        · obtain ⟨v, hv, isv⟩ := hds.get (i := k) (d := (ns[k]).data) (by rw [List.getElem?_map, hnk]; rfl)
          obtain ⟨b, rfl, hb⟩ := nd_is isv
          refine ⟨_, rfl, _, rfl, sh, rs, (k : Nat), _, rfl, rfl, SqL.of (a.same _ _ hsh), atI_nat hv, [], b, ns[k], rfl, hb.adv a, fun l H2 nl hl a2 => ?_⟩
          have hl' : H2 l = some (.tup (nV (ns[k]).parts)) := hl
          have aH2 := a.trans a2
          have nl0 : l ≠ D := fun z => by rw [z, hD] at nl; cases nl
          refine ⟨l, rfl, ⟨_, SqT.of hl'⟩, ?_⟩
          refine for_tup (a := l) (xs := nV (ns[k]).parts) (fun j σ' H' => ∃ x5, σ' = [some (.ref sh), some (.ref rw_), some (.ref D), some (.int (k : Nat)), x5] ∧ H' D = some (.lst (mbV (markP m ((ns[k]).parts.take j)) ns.length)) ∧ H' l = some (.tup (nV (ns[k]).parts)) ∧ Adv [] H H')
            ⟨_, rfl, by rw [List.take_zero, markP_nil]; exact a2.same _ _ hD, hl', aH2⟩ ?_ ?_ ?_
          · rintro j σ' H' hj ⟨x5, rfl, hD', hl2, a'⟩
            exact SqT.of hl2
          · rintro j x σ' H' hx ⟨x5, rfl, hD', hl2, a'⟩
            obtain ⟨r, hr1, rfl⟩ : ∃ r, (ns[k]).parts[j]? = some r ∧ V.int (r : Nat) = x := by
              unfold nV at hx
              rw [List.getElem?_map, Option.map_eq_some_iff] at hx
              exact hx
            have hrn := parts_lt (ok.2 k _ hnk) r (List.mem_of_getElem? hr1)
            refine ⟨_, rfl, _, rfl, D, _, _, r, rfl, rfl, hD', ixN_of (by rw [mb_len]; omega), ?_⟩
            refine ⟨_, rfl, ?_, by rw [upd_ne nl0]; exact hl2, a'.mut nD0⟩
            rw [upd_same, mb_set, markP_snoc, List.take_succ, hr1]
            rfl
          · rintro σ' H' ⟨x5, rfl, hD', hl2, a'⟩
            have et : (ns[k]).parts.take (nV (ns[k]).parts).length = (ns[k]).parts := by unfold nV; rw [List.length_map, List.take_length]
            rw [et] at hD'
            refine ⟨_, _, _, rfl, hD', ?_, a'⟩
            rw [hm, ek2]
            show markDown ns k (if m k = true then markP m ((ns[k]?.getD .no).parts) else m) = _
            rw [if_pos e, hnk]
            rfl
        · refine ⟨_, _, m, rfl, hD, ?_, a⟩
          rw [hm, ek2]
          show markDown ns k (if m k = true then markP m ((ns[k]?.getD .no).parts) else m) = _
          rw [if_neg (by rw [e]; decide)]
      · rintro σ' H1 ⟨x3, x4, m, rfl, hD, hm, a⟩
        rw [Nat.sub_self] at hm
        have hm' : marked ns rows = m := hm
        refine ⟨_, rfl, sh, rs, rfl, .inl (SqL.of (a.same _ _ hsh)), _, rfl, by omega, by omega, fun L nL => ?_⟩
        refine lc_filtR (n := ((rs.length : Nat) : Int).toNat) (fun i => V.int (i : Nat)) m nL (by omega) ?_ ?_
        · intro i H2 acc R R0 hi a2 hL k1 k0
          have hi' : i < ns.length := by omega
          have hD2 := a2.same _ _ hD
          refine ⟨rfl, _, rfl, _, rfl, .inl ⟨D, _, _, _, rfl, rfl, SqL.of hD2, atI_nat0 (mb_at hi'), m i, rfl, iteB (fun e => ?_) (fun e => k0 e H2 hL a2)⟩⟩
          refine ⟨_, rfl, ?_⟩
          rw [Int.zero_add]
          exact k1 e H2 hL a2
        · intro H2 a2 hL
          refine q L H2 (a.free (by simp) nL) ?_ (a.trans a2)
          rw [hL]
          unfold belowF nV
          rw [hm', Int.toNat_natCast, hrl]
end
end K60

set_option Elab.async false
set_option linter.all false
set_option maxRecDepth 100000
set_option maxHeartbeats 400000
namespace K60
open PySem PySem.Spec PyProof.Rows L2 LL
section
variable [KW]
variable {P : Program} {w : World} {K : PySem.W.Frag} {mg : Str → Option Value} {base : Heap}
/-! ### _law_book -/
structure BookP (vs : List V) (H : Hp) (Q : VK) : Prop where
  ex : ∃ (M : List Addr) (sh : Addr) (rs : List V) (ns : List Nd), vs = [.ref sh] ∧ H sh = some (.lst rs) ∧ IsDs M H (ns.map Nd.data) rs ∧ (∀ b ∈ M, H b ≠ none) ∧ ns.Nodup ∧ ns.length ≤ 80000 ∧
    ∀ bk b0 b1 H', H b0 = none → H b1 = none → bk ∉ b0 :: b1 :: M → H' bk = some (.lst [.ref b0, .ref b1]) → BkN (b0 :: b1 :: M) H' b0 b1 ns → Adv [] H H' → Q (.ref bk) H'
def spBook : Sp := fun vs H Q _ => BookP vs H Q
theorem not_take {ns : List Nd} (hn : ns.Nodup) {i : Nat} (hi : i < ns.length) : ns[i] ∉ ns.take i := fun z => by
  obtain ⟨j, hj, e⟩ := List.getElem_of_mem z
  rw [List.length_take] at hj
  rw [List.getElem_take] at e
  exact List.pairwise_iff_getElem.mp hn j i (by omega) hi (by omega) e
theorem ok_law_book (A : All K mg w) : FnOk P w K mg base CX0 1 A.law_book.f A.law_book.fd ["sheet"] spBook := by
  refine A.law_book.F.ok sc_law_book (fun vs H Q E h => ?_) (fun cdv Ar outer s H vs Q E hr h => ?_)
  · obtain ⟨M, sh, rs, ns, rfl, _⟩ := h.ex
    rfl
  · obtain ⟨M, sh, rs, ns, rfl, hsh, hds, hal, hnd, hl, q⟩ := h.ex
    refine ⟨_, (pss_cons (ps_set (i := 1) sc_law_book.nd rfl (Or.inl rfl) (pe_dnewX A.W))
  (pss_cons (ps_for PassesOwn.never rfl (pi_range1 rfl A.T.range (pa_cons (pe_callB call_len_seq (by rfl) A.T.len PySem.boot_len (pa_cons (pv 0) pa_nil)) pa_nil)) (pg_name (i := 2) sc_law_book.nd rfl (Or.inl rfl))
    (pss_one (ps_dputX A.W (hu_of hr) (pv 1) (pe_ix ix_list (pv 0) (pv 2) (fun _ _ => rfl)) (pv 2) rfl)))
  (pss_one (ps_ret (pe_lst (pa_cons (pe_callTy call_list_of (by rfl) A.T.list (by decide +kernel) (pa_cons (pv 0) pa_nil)) (pa_cons (pv 1) pa_nil))))))), ?_⟩
    have hrl := hds.len
    rw [List.length_map] at hrl
    intro T nT
    have aT : Adv [] H (upd H T (dxo T [])) := Adv.new nT
    refine ⟨_, rfl, sh, rs, rfl, .inl (SqL.of (aT.same _ _ hsh)), _, rfl, by omega, by omega, ?_⟩
    refine for_range (lo := 0) (n := ((rs.length : Nat) : Int).toNat) (fun i σ' H' => ∃ x2, σ' = [some (.ref sh), some (.ref T), x2] ∧ Tab (T :: M) H' T (tabG 0 (ns.take i)) ∧ Adv [] H H') ⟨_, rfl, Tab.new upd_same, aT⟩ ?_ ?_
    · rintro i σ' H' hi ⟨x2, rfl, hT, a⟩
      have hi' : i < ns.length := by omega
      have hni : ns[i]? = some ns[i] := List.getElem?_eq_getElem hi'
      obtain ⟨v, hv, isv⟩ := hds.get (i := i) (d := (ns[i]).data) (by rw [List.getElem?_map, hni]; rfl)
      obtain ⟨b, rfl, hb⟩ := nd_is isv
      have hmem : memK (ns[i]).keys ((tabG 0 (ns.take i)).map (·.1)) = false := by
        rw [← val_mem, tab_val, if_neg (not_take hnd hi')]; rfl
      obtain ⟨o, hg, t2⟩ := hT.putH A.W (by simp) ((hb.fresh nT).adv (Adv.nil a)) (by rw [tab_len, List.length_take, sizeLine_eq]; omega) (.int (i : Nat))
      rw [put_new _ _ _ hmem] at t2
      refine ⟨_, rfl, _, rfl, _, rfl, _, rfl, sh, rs, _, _, rfl, rfl, SqL.of (a.same _ _ hsh), atI_nat0 hv, T, _, rfl, by rw [Int.zero_add]; exact hg, ?_⟩
      refine ⟨_, rfl, ?_, a.mut nT⟩
      rw [List.take_succ, hni, Option.toList_some, tab_app, List.length_take, Nat.min_eq_left (Nat.le_of_lt hi'), Nat.zero_add]
      exact t2
    · rintro σ' H' ⟨x2, rfl, hT, a⟩
      have et : ns.take ((rs.length : Nat) : Int).toNat = ns := by rw [Int.toNat_natCast, hrl, List.take_length]
      rw [et] at hT
      refine ⟨_, rfl, sh, rs, rfl, .inl (SqL.of (a.same _ _ hsh)), fun b0 n0 => ⟨_, rfl, by show 2 ≤ sizeLine; decide, fun bk nk => ?_⟩⟩
      have a0 : Adv [] H' (upd H' b0 (.lst rs)) := Adv.new n0
      have a1 := a0.newT (o := .lst [.ref b0, .ref T]) nk
      have hT1 := hT.same a1
      have h01 : b0 ≠ T := fun z => hT.here (by rw [← z]; exact n0)
      have hk0 : bk ≠ b0 := fun z => by rw [z, upd_same] at nk; cases nk
      have nk' : H' bk = none := a0.free (by simp) nk
      have hkT : bk ≠ T := fun z => hT.here (by rw [← z]; exact nk')
      have aH := a.trans a1
      have n0H : H b0 = none := a.free (by simp) n0
      have hb0 : (upd (upd H' b0 (.lst rs)) bk (.lst [.ref b0, .ref T])) b0 = some (.lst rs) := by rw [upd_ne hk0.symm, upd_same]
      have hkM : bk ∉ M := fun z => hal bk z (a.free (by simp) nk')
      refine q bk b0 T _ n0H nT (by simp [hk0, hkT, hkM]) upd_same ⟨⟨rs, hb0, ?_⟩, (hT.fresh n0).same a1, by simp, by simp, h01, fun b hb => ?_⟩ aH
      · exact ((hds.fresh nT).fresh n0H).adv (Adv.nil aH)
      · rcases List.mem_cons.mp hb with e | hb
        · rw [e, hb0]; simp
        · rcases List.mem_cons.mp hb with e | hb
          · rw [e]; exact hT1.here
          · cases eb : H b with
            | none => exact absurd eb (hal b hb)
            | some o => rw [aH.same _ _ eb]; simp
/-! ### places -/
structure PlacesP (vs : List V) (H : Hp) (Q : VK) : Prop where
  ex : ∃ (M : List Addr) (sh : Addr) (rs : List V) (ns : List Nd), vs = [.ref sh] ∧ H sh = some (.lst rs) ∧ IsDs M H (ns.map Nd.data) rs ∧ ns.Nodup ∧ ns.length ≤ 80000 ∧
    ∀ T H', H T = none → Tab (T :: M) H' T (tabG 0 ns) → Adv [] H H' → Q (.ref T) H'
def spPlaces : Sp := fun vs H Q _ => PlacesP vs H Q
theorem ok_places (A : All K mg w) : FnOk P w K mg base CX0 1 A.places.f A.places.fd ["sheet"] spPlaces := by
  refine A.places.F.ok sc_places (fun vs H Q E h => ?_) (fun cdv Ar outer s H vs Q E hr h => ?_)
  · obtain ⟨M, sh, rs, ns, rfl, _⟩ := h.ex
    rfl
  · obtain ⟨M, sh, rs, ns, rfl, hsh, hds, hnd, hl, q⟩ := h.ex
    refine ⟨_, (pss_cons (ps_set (i := 1) sc_places.nd rfl (Or.inl rfl) (pe_dnewX A.W))
  (pss_cons (ps_for PassesOwn.never rfl (pi_enum (by rfl) A.T.enumerate (pa_cons (pv 0) pa_nil)) (pg_tup rfl (pgs_cons (pg_name (i := 2) sc_places.nd rfl (Or.inl rfl)) (pgs_cons (pg_name (i := 3) sc_places.nd rfl (Or.inl rfl)) pgs_nil)))
    (pss_one (ps_dputX A.W (hu_of hr) (pv 1) (pv 3) (pv 2) rfl)))
  (pss_one (ps_ret (pv 1))))), ?_⟩
    have hrl := hds.len
    rw [List.length_map] at hrl
    intro D nD
    have aD : Adv [] H (upd H D (dxo D [])) := Adv.new nD
    refine ⟨_, rfl, sh, rs, rfl, SqL.of (aD.same _ _ hsh), ?_⟩
    refine for_enum (K := K) (a := sh) (xs := rs) (fun i σ' H' => ∃ x2 x3, σ' = [some (.ref sh), some (.ref D), x2, x3] ∧ Tab (D :: M) H' D (tabG 0 (ns.take i)) ∧ Adv [] H H') ⟨_, _, rfl, Tab.new upd_same, aD⟩ (fun i σ' H' _ ⟨_, _, _, _, a'⟩ => a'.same _ _ hsh) ?_ ?_
    · rintro i x T σ' H' hx ⟨x2, x3, rfl, hD, a⟩ nT
      have hi' : i < ns.length := by have := (List.getElem?_eq_some_iff.mp hx).1; omega
      have hni : ns[i]? = some ns[i] := List.getElem?_eq_getElem hi'
      obtain ⟨v, hv, isv⟩ := hds.get (i := i) (d := (ns[i]).data) (by rw [List.getElem?_map, hni]; rfl)
      rw [hx] at hv
      cases hv
      obtain ⟨b, rfl, hb⟩ := nd_is isv
      have hmem : memK (ns[i]).keys ((tabG 0 (ns.take i)).map (·.1)) = false := by
        rw [← val_mem, tab_val, if_neg (not_take hnd hi')]; rfl
      have aT := a.newT (o := .tup [.int (i : Nat), .ref b]) nT
      have hDT := hD.same (Adv.new (o := .tup [.int (i : Nat), .ref b]) nT)
      obtain ⟨o, hg, t2⟩ := hDT.putH A.W (by simp) ((hb.fresh nD).adv (Adv.nil aT)) (by rw [tab_len, List.length_take, sizeLine_eq]; omega) (.int (i : Nat))
      rw [put_new _ _ _ hmem] at t2
      refine ⟨T, _, rfl, SqT.of upd_same, rfl, _, _, rfl, _, _, rfl, rfl, ?_⟩
      refine ⟨_, rfl, _, rfl, _, rfl, D, _, rfl, hg, ?_⟩
      refine ⟨_, _, rfl, ?_, aT.mut nD⟩
      rw [List.take_succ, hni, Option.toList_some, tab_app, List.length_take, Nat.min_eq_left (Nat.le_of_lt hi'), Nat.zero_add]
      exact t2
    · rintro σ' H' ⟨x2, x3, rfl, hD, a⟩
      have et : ns.take rs.length = ns := by rw [hrl, List.take_length]
      rw [et] at hD
      exact ⟨_, rfl, q D H' nD hD a⟩
end
end K60

set_option Elab.async false
set_option linter.all false
set_option maxRecDepth 100000
set_option maxHeartbeats 400000
namespace K60
open PySem PySem.Spec PyProof.Rows L2 LL
section
variable [KW]
variable {P : Program} {w : World} {K : PySem.W.Frag} {mg : Str → Option Value} {base : Heap}
/-! ### row_for -/
structure RowForP (vs : List V) (H : Hp) (Q : VK) : Prop where
  ex : ∃ (M : List Addr) (b0 b1 nd : Addr) (ns : List Nd) (n : Nd), vs = [.ref b0, .ref b1, .ref nd] ∧ BkN M H b0 b1 ns ∧ Tp M H nd (n.keys.map kV) ∧ ns.length ≤ 1000000 ∧
    ∀ H', BkN M H' b0 b1 (rowF ns n).2 → Adv [b0, b1] H H' → Q (.int ((rowF ns n).1 : Nat)) H'
def spRowFor : Sp := fun vs H Q _ => RowForP vs H Q
theorem ok_row_for (A : All K mg w) : FnOk P w K mg base CX0 1 A.row_for.f A.row_for.fd ["sheet", "table", "node"] spRowFor := by
  refine A.row_for.F.ok sc_row_for (fun vs H Q E h => ?_) (fun cdv Ar outer s H vs Q E hr h => ?_)
  · obtain ⟨M, b0, b1, nd, ns, n, rfl, _⟩ := h.ex
    rfl
  · obtain ⟨M, b0, b1, nd, ns, n, rfl, B, hnd, hl, q⟩ := h.ex
    refine ⟨_, (pss_cons (ps_if (pt_cmp (pc_dnotinX A.W (hu_of hr) (pv 2) (pv 1)))
    (pss_cons (ps_dputX A.W (hu_of hr) (pv 1) (pv 2) (pe_callB call_len_seq (by rfl) A.T.len PySem.boot_len (pa_cons (pv 0) pa_nil)) rfl)
  (pss_one (ps_expr (pe_bm PySem.F.plainAttrs_list PySem.F.slot_list_append PySem.F.type_list_append mt_append (pv 0) (pa_cons (pv 2) pa_nil)))))
    pss_nil)
  (pss_one (ps_ret (pe_dgetX A.W (hu_of hr) (pv 1) (pv 2) (fun _ _ => rfl))))), ?_⟩
    obtain ⟨⟨rs, r0, rd⟩, r1, m0, m1, n01, al⟩ := id B
    have hrl : rs.length = ns.length := by have := rd.len; rw [List.length_map] at this; exact this
    have hv := tab_val 0 ns n
    refine ⟨_, rfl, _, rfl, b1, _, rfl, r1.get A.W hnd, _, rfl, ?_⟩
    by_cases hm : n ∈ ns
    · rw [if_pos hm, Nat.zero_add] at hv
      rw [hv]
      refine iteN rfl ?_
      refine ⟨_, rfl, _, rfl, b1, .int (ns.idxOf n : Nat), rfl, by have := r1.get A.W hnd; rw [hv] at this; exact this, ?_⟩
      unfold rowF at q
      rw [if_pos hm] at q
      exact q H B (Adv.refl _ _)
    · rw [if_neg hm] at hv
      rw [hv]
      refine iteY rfl ?_
      obtain ⟨o, hg, B2⟩ := B.push A.W r0 hnd hm (by rw [sizeLine_eq]; omega)
      refine ⟨_, rfl, b0, rs, rfl, .inl (SqL.of r0), ?_⟩
      refine ⟨_, rfl, _, rfl, b1, _, rfl, hg, ?_⟩
      have r01 : (upd H b1 o) b0 = some (.lst rs) := by rw [upd_ne n01]; exact r0
      refine ⟨_, rfl, .inl ⟨rfl, _, SqL.of r01⟩, _, rfl, b0, rs, _, rfl, rfl, r01, by rw [sizeLine_eq]; omega, ?_⟩
      have aa : Adv [b0, b1] H (upd (upd H b1 o) b0 (.lst (rs ++ [.ref nd]))) := (Adv.set (by simp)).trans (Adv.set (by simp))
      have hnd2 := hnd.adv (aa.more (by simp [m0, m1]))
      have hval : valV (tabG 0 (ns ++ [n])) n.keys = some (.int (ns.length : Nat)) := by
        rw [tab_val, if_pos (by simp), Nat.zero_add, List.idxOf_append, if_neg hm]
        simp [List.idxOf_cons]
      refine ⟨_, rfl, _, rfl, b1, _, rfl, by have := B2.tab.get A.W hnd2; rw [hval] at this; exact this, ?_⟩
      unfold rowF at q
      rw [if_neg hm] at q
      exact q _ B2 aa
end
end K60

set_option Elab.async false
set_option linter.all false
set_option maxRecDepth 100000
set_option maxHeartbeats 400000
namespace K60
open PySem PySem.Spec PyProof.Rows L2 LL
section
variable [KW]
variable {P : Program} {w : World} {K : PySem.W.Frag} {mg : Str → Option Value} {base : Heap}
/-! ### _law_moved -/
structure MovedP (vs : List V) (H : Hp) (Q : VK) : Prop where
  ex : ∃ (M : List Addr) (a d : Addr) (n : Nd) (l : List Nat) (f : Nat → Nat), vs = [.ref a, .ref d] ∧ Tp M H a (n.keys.map kV) ∧ (∀ b ∈ M, H b ≠ none) ∧ H d = some (.dK (newT l f)) ∧ (∀ p ∈ n.parts, p ∈ l) ∧
    ∀ p H', Tp M H' p ((n.moved f).keys.map kV) → Adv [] H H' → Q (.ref p) H'
theorem moved_keys {n : Nd} (f : Nat → Nat) (h : ∀ i, n ≠ .letter i) : ∃ wd : Str, n.keys.map kV = V.str wd :: nV n.parts ∧ (n.moved f).keys.map kV = V.str wd :: nV (n.parts.map f) ∧ decide (V.str wd = V.str "letter") = false := by
  cases n with
  | letter i => exact absurd rfl (h i)
  | no => exact ⟨"no", rfl, rfl, by decide⟩
  | bin o j k => exact ⟨o.str, rfl, rfl, by cases o <;> decide⟩
  | box j => exact ⟨"box", rfl, rfl, by decide⟩
def spMoved : Sp := fun vs H Q _ => MovedP vs H Q
theorem ok_law_moved (A : All K mg w) : FnOk P w K mg base CX0 1 A.law_moved.f A.law_moved.fd ["node", "new"] spMoved := by
  refine A.law_moved.F.ok sc_law_moved (fun vs H Q E h => ?_) (fun cdv Ar outer s H vs Q E hr h => ?_)
  · obtain ⟨M, a, d, n, l, f, rfl, _⟩ := h.ex
    rfl
  · obtain ⟨M, a, d, n, l, f, rfl, ha, hal, hd, hp, q⟩ := h.ex
    refine ⟨_, (pss_one (ps_ret (pe_ifExp (pt_cmpR op_eq (pe_ix ix_tup (pv 0) pe_int (fun _ _ => rfl)) pe_str (nomark _)) (pv 0) (pe_callTy call_tuple_of (by rfl) A.T.tuple (by decide +kernel) (pa_cons (pe_op op_cat (pe_lst (pa_cons (pe_ix ix_tup (pv 0) pe_int (fun _ _ => rfl)) pa_nil)) (pe_lc (own := [("part", 2)]) (g := gName 2) rfl sc_law_moved.nd (pi_tup (pe_slice sl_tup (pv 0) (po_some pe_int) po_none)) (blkOk_by (own := [("part", 2)]) (N := ["node", "new", "part"]) (sc := defScope s_law_moved) (by decide +kernel)) (fun _ _ _ _ _ => pg_name (i := 2) sc_law_moved.nd rfl (Or.inl rfl)) (fun _ _ _ _ _ => pts_nil) (fun _ _ _ _ _ => (pe_dget (hu_of hr) (pv 1) (pv 2) (fun _ _ => rfl))))) pa_nil))))), ?_⟩
    by_cases hlet : ∃ i, n = .letter i
    · obtain ⟨i, rfl⟩ := hlet
      refine ⟨_, rfl, a, _, 0, _, rfl, rfl, ha.sq A.W, atI_nat (j := 0) rfl, rfl, _, rfl, iteY (by decide) ⟨_, rfl, ?_⟩⟩
      exact q a H ha (Adv.refl _ _)
    · obtain ⟨wd, e1, e2, e3⟩ := moved_keys (n := n) f (fun i z => hlet ⟨i, z⟩)
      rw [e1] at ha
      have hpl : n.parts.length ≤ 2 := by cases n <;> simp [Nd.parts]
      refine ⟨_, rfl, a, _, 0, _, rfl, rfl, ha.sq A.W, atI_nat (j := 0) rfl, rfl, _, rfl, iteN e3 ?_⟩
      refine ⟨_, rfl, a, _, 0, _, rfl, rfl, ha.sq A.W, atI_nat (j := 0) rfl, by show 1 ≤ sizeLine; decide, fun p0 n0 => ?_⟩
      have a0 : Adv [] H (upd H p0 (.lst [.str wd])) := Adv.new n0
      refine ⟨_, rfl, 1, rfl, a, _, rfl, (ha.adv (Adv.nil a0)).sq A.W, ?_, fun p1 n1 => ?_⟩
      · intro z
        have z1 := z.1
        rw [show HT.sIx (V.str wd :: nV n.parts).length 0 (some 1) = min 1 (V.str wd :: nV n.parts).length from HT.sIx_nat _ 0 1, List.length_cons] at z1
        omega
      · rw [cut_from1]
        have a1 : Adv [] H (upd (upd H p0 (.lst [.str wd])) p1 (.tup (nV n.parts))) := a0.newT n1
        refine ⟨p1, rfl, ⟨_, SqT.of upd_same⟩, fun D nD => ?_⟩
        refine lc_mapT (K := K) (a := p1) (xs := nV n.parts) (fun i => V.int ((f (n.parts.getD i 0) : Nat) : Int)) nD (SqT.of upd_same) (by unfold nV; rw [List.length_map]; omega) ?_ ?_
        · intro i x H2 acc R hx a2 hD k
          obtain ⟨r, hr1, rfl⟩ : ∃ r, n.parts[i]? = some r ∧ V.int (r : Nat) = x := by
            unfold nV at hx
            rw [List.getElem?_map, Option.map_eq_some_iff] at hx
            exact hx
          have hrl := hp r (List.mem_of_getElem? hr1)
          have hd2 := (a1.trans a2).same _ _ hd
          have er : n.parts.getD i 0 = r := by rw [List.getD_eq_getElem?_getD, hr1]; rfl
          refine ⟨rfl, _, rfl, _, rfl, d, .int (f r : Nat), rfl, by have := DGet.k (k := (Sum.inl (r : Int) : Key)) hd2; rw [new_val, if_pos hrl] at this; exact this, ?_⟩
          have := k H2 hD a2
          rw [er] at this
          exact this
        · intro H2 a2 hD
          have a02 := a1.trans a2
          have hp0 := ((Adv.new (M := []) (o := .tup (nV n.parts)) n1).trans a2).same _ _ (upd_same (H := H) (a := p0) (o := .lst [.str wd]))
          have el : ((List.range (nV n.parts).length).map fun i => V.int ((f (n.parts.getD i 0) : Nat) : Int)) = nV (n.parts.map f) := by
            unfold nV
            apply List.ext_getElem
            · simp
            · intro i h1 h2
              have hi : i < n.parts.length := by simpa using h1
              simp [hi]
          rw [el] at hD
          refine ⟨p0, D, _, _, rfl, rfl, hp0, hD, by unfold nV; simp [sizeLine_eq]; omega, fun p2 n2 => ?_⟩
          have a3 := a02.newT (o := .lst ([.str wd] ++ nV (n.parts.map f))) n2
          refine ⟨p2, _, rfl, .inl ⟨SqL.of upd_same, fun p3 n3 => ?_⟩⟩
          exact q p3 _ (Tp.of (by rw [upd_same, e2]; rfl) (not_mem_new hal (a3.free (by simp) n3))) (a3.newT n3)
end
end K60

set_option Elab.async false
set_option linter.all false
set_option maxRecDepth 100000
set_option maxHeartbeats 400000
namespace K60
open PySem PySem.Spec PyProof.Rows L2 LL
local macro_rules | `(tactic| walk_at "ne") => `(tactic| first | assumption | (apply Ne.symm; assumption) | exact ne_of_none (by walk_at "hp") (by assumption) | exact (ne_of_none (by walk_at "hp") (by assumption)).symm)
local macro_rules | `(tactic| walk_at "nm") => `(tactic| first | assumption | exact notin0 | exact notin1 (by walk_at "ne") | exact notin2 (by walk_at "ne") (by walk_at "ne"))
local macro_rules | `(tactic| walk_at "hp") => `(tactic| first | assumption | exact upd_same | (refine Eq.trans (upd_ne ?ne) ?hh; (case hh => walk_at "hp"); (case ne => walk_at "ne")) | (refine Adv.get' (by assumption) ?hh ?nn; (case hh => walk_at "hp"); (case nn => walk_at "nm")))
local macro_rules | `(tactic| walk_at "tp") => `(tactic| first | assumption | exact Tp.adv (by walk_at "tp") (by assumption) | exact Tp.adv (by walk_at "tp") (Adv.nil (by assumption)))
local macro_rules | `(tactic| walk_at "sq") => `(tactic| first | assumption | exact Tp.sq (by assumption) (by walk_at "tp") | exact SqT.of (by walk_at "hp"))
local macro_rules | `(tactic| walk_at "at") => `(tactic| first | exact atI_nat (j := 0) rfl | exact atI_nat (j := 1) rfl | exact atI_nat (j := 2) rfl | exact atI_nat (j := 3) rfl | exact atI_nat (by assumption) | (rw [Int.zero_add]; exact atI_nat (by assumption)))
local macro_rules | `(tactic| walk_at "bb") => `(tactic| first | assumption | decide | exact rfl)
local macro_rules | `(tactic| walk_at "ci") => `(tactic| first | omega | (dsimp only; omega) | (unfold CDiv; omega) | (unfold CMul; omega))
local macro_rules | `(tactic| walk_at "rd1") => `(tactic| first
  | with_reducible refine rd_c ?_
  | ((with_reducible refine' rd_var ?rh ?_); (case rh => exact rfl))
  | with_reducible refine rd_op ?_
  | with_reducible refine rd_seq ?_
  | with_reducible refine rd_asg ?_
  | with_reducible refine rd_gname ?_
  | with_reducible refine rd_ifS ?_
  | with_reducible refine rd_test ?_
  | with_reducible refine rd_tB ?_
  | with_reducible refine rd_blP ?_
  | ((with_reducible refine' iteY ?rh ?_); (case rh => walk_at "bb"))
  | ((with_reducible refine' iteN ?rh ?_); (case rh => walk_at "bb"))
  | with_reducible refine rd_ret ?_
  | with_reducible refine rd_nx ?_
  | ((with_reducible refine' rd_eq ?rh ?_); (case rh => exact rfl))
  | ((with_reducible refine' rd_ne ?rh ?_); (case rh => exact rfl))
  | with_reducible refine rd_add ?_
  | with_reducible refine rd_sub ?_
  | with_reducible refine rd_i0 ?_
  | with_reducible refine rd_and ?_
  | with_reducible refine rd_or ?_
  | with_reducible refine rd_not ?_
  | with_reducible refine rd_andV ?_
  | with_reducible refine rd_orV ?_
  | with_reducible refine rd_notV ?_
  | with_reducible refine rd_ifE ?_
  | with_reducible refine rd_isN ?_
  | with_reducible refine rd_notN ?_
  | with_reducible refine rd_cons ?_
  | with_reducible refine rd_nil ?_
  | with_reducible refine rd_tup ?_
  | with_reducible refine rd_lst ?_
  | with_reducible refine rd_call ?_
  | with_reducible refine rd_cb ?_
  | with_reducible refine rd_meth ?_
  | with_reducible refine rd_callS ?_
  | with_reducible refine rd_make ?_
  | with_reducible refine rd_rfl ?_
  | with_reducible refine rd_fld ?_
  | with_reducible refine rd_drop ?_
  | with_reducible refine rd_gsub ?_
  | with_reducible refine rd_gcons ?_
  | with_reducible refine rd_gnil ?_
  | with_reducible refine rd_par ?_
  | with_reducible refine rd_two ?_
  | with_reducible refine rd_par3 ?_
  | with_reducible refine rd_three ?_
  | with_reducible refine rd_int1 ?_
  | ((with_reducible refine' rd_i ?rh ?_); (case rh => walk_at "ci"))
  | with_reducible refine rd_part ?_
  | with_reducible refine rd_nopart ?_
  | with_reducible refine rd_int ?_
  | with_reducible refine rd_sl ?_
  | with_reducible refine rd_bm ?_
  | with_reducible refine rd_bm0 ?_
  | with_reducible refine rd_dgetT ?_
  | with_reducible refine rd_din ?_
  | with_reducible refine rd_dnin ?_
  | with_reducible refine rd_un ?_
  | ((with_reducible refine' rd_ixL ?rh ?re ?_); (case rh => walk_at "hp"); (case re => walk_at "at"))
  | ((with_reducible refine' rd_ixT ?rh ?re ?_); (case rh => walk_at "sq"); (case re => walk_at "at"))
  | ((with_reducible refine' rd_lenT ?rh ?_); (case rh => walk_at "sq"))
  | ((with_reducible refine' rd_tyL ?rh ?_); (case rh => walk_at "hp"))
  | ((with_reducible refine' rd_len ?rh ?_); (case rh => walk_at "hp"))
  | with_reducible refine rd_u ?_
  | ((with_reducible refine' rd_slL ?rh ?_); (case rh => walk_at "hp"))
  | with_reducible refine rd_for ?_
  | with_reducible refine rd_rng1 ?_
  | with_reducible refine rd_rng2 ?_
  | with_reducible refine rd_ints1 ?_
  | with_reducible refine rd_ints2 ?_
  | with_reducible refine rd_retN ?_)
local macro_rules | `(tactic| walk_at "rd") => `(tactic| repeat walk_at "rd1")
section
variable [KW]
variable {P : Program} {w : World} {K : PySem.W.Frag} {mg : Str → Option Value} {base : Heap}
/-! ### _law_reading_row -/
theorem row_len (ns : List Nd) (n : Nd) : (rowF ns n).2.length ≤ ns.length + 1 := by
  unfold rowF
  split <;> simp
theorem deny_len (ns : List Nd) (r : Nat) : (denyF ns r).2.length ≤ ns.length + 2 := by
  unfold denyF
  have h1 := row_len ns .no
  have h2 := row_len (rowF ns .no).2 (.bin .imp r (rowF ns .no).1)
  omega
structure ReadP (vs : List V) (H : Hp) (Q : VK) : Prop where
  ex : ∃ (M : List Addr) (bk b0 b1 d : Addr) (ns : List Nd) (at_ : Nat) (n : Nd) (l : List Nat) (f : Nat → Nat) (wd : W3), vs = [.str wd.str, .ref bk, .int at_, .ref d] ∧ H bk = some (.lst [.ref b0, .ref b1]) ∧ bk ∉ M ∧ BkN M H b0 b1 ns ∧ d ≠ b0 ∧ d ≠ b1 ∧
    H d = some (.dK (newT l f)) ∧ (∀ p ∈ n.parts, p ∈ l) ∧ ns[at_]? = some n ∧ ns.length ≤ 800000 ∧
    ∀ H', BkN M H' b0 b1 (stepF wd ns at_ n f).2 → Adv [b0, b1] H H' → Q (.int ((stepF wd ns at_ n f).1 : Nat)) H'
def spReading : Sp := fun vs H Q _ => ReadP vs H Q
theorem new_get {H : Hp} {d : Addr} {l : List Nat} {f : Nat → Nat} {j : Nat} (hd : H d = some (.dK (newT l f))) (hj : j ∈ l) : DGet H d (.int (j : Nat)) (some (.int (f j : Nat))) := by
  have := DGet.k (k := (Sum.inl (j : Int) : Key)) hd
  rw [new_val, if_pos hj] at this
  exact this
theorem ok_law_reading_row (A : All K mg w) : FnOk P w K mg base CX0 3 A.law_reading_row.f A.law_reading_row.fd ["word", "book", "at", "new"] spReading := by
  refine A.law_reading_row.F.ok sc_law_reading_row (fun vs H Q E h => ?_) (fun cdv Ar outer s H vs Q E hr h => ?_)
  · obtain ⟨M, bk, b0, b1, d, ns, at_, n, l, f, wd, rfl, _⟩ := h.ex
    rfl
  · obtain ⟨M, bk, b0, b1, d, ns, at_, n, l, f, wd, rfl, hbk, kM, B, d0, d1, hd, hp, hn, hl, q⟩ := h.ex
    refine ⟨_, (pss_cons (ps_set (i := 4) sc_law_reading_row.nd rfl (Or.inl rfl) (pe_ix ix_list (pe_ix ix_list (pv 1) pe_int (fun _ _ => rfl)) (pv 2) (fun _ _ => rfl)))
  (pss_cons (ps_if (PW.pt (pw_or (pt_cmpR op_eq (pe_ix ix_tup (pv 4) pe_int (fun _ _ => rfl)) pe_str (nomark _)) (pw_or1 (PW.pt (pw_and (pt_cmpR op_eq (pe_ix ix_tup (pv 4) pe_int (fun _ _ => rfl)) pe_str (nomark _)) (pw_and1 (pt_cmpR op_eq (pv 0) pe_str (nomark _))))))))
    (pss_one (ps_ret (pv 2)))
    pss_nil)
  (pss_cons (ps_if (pt_cmpR op_eq (pe_ix ix_tup (pv 4) pe_int (fun _ _ => rfl)) pe_str (nomark _))
    (pss_one (ps_ret (pe_ifExp (pt_cmpR op_eq (pv 0) pe_str (nomark _)) (pe_call (ok_law_not A) (hr.mono (by omega)) rfl A.law_not.m A.law_not.F.kp A.law_not.b .nil pass0 (pa_cons (pv 1) (pa_cons (pe_call (ok_law_not A) (hr.mono (by omega)) rfl A.law_not.m A.law_not.F.kp A.law_not.b .nil pass0 (pa_cons (pv 1) (pa_cons (pv 2) pa_nil))) pa_nil))) (pe_call (ok_law_row A) (hr.mono (by omega)) rfl A.law_row.m A.law_row.F.kp A.law_row.b .nil pass0 (pa_cons (pv 1) (pa_cons (pe_tup (pa_cons pe_str (pa_cons (pv 2) pa_nil))) pa_nil))))))
    pss_nil)
  (pss_cons (ps_if (PW.pt (pw_and (pt_cmpR op_eq (pv 0) pe_str (nomark _)) (pw_and1 (pt_cmpR op_eq (pe_ix ix_tup (pv 4) pe_int (fun _ _ => rfl)) pe_str (nomark _)))))
    (pss_cons (ps_set (i := 5) sc_law_reading_row.nd rfl (Or.inl rfl) (pe_call (ok_law_not A) (hr.mono (by omega)) rfl A.law_not.m A.law_not.F.kp A.law_not.b .nil pass0 (pa_cons (pv 1) (pa_cons (pe_dget (hu_of hr) (pv 3) (pe_ix ix_tup (pv 4) pe_int (fun _ _ => rfl)) (fun _ _ => rfl)) pa_nil))))
  (pss_cons (ps_set (i := 6) sc_law_reading_row.nd rfl (Or.inl rfl) (pe_call (ok_law_not A) (hr.mono (by omega)) rfl A.law_not.m A.law_not.F.kp A.law_not.b .nil pass0 (pa_cons (pv 1) (pa_cons (pe_dget (hu_of hr) (pv 3) (pe_ix ix_tup (pv 4) pe_int (fun _ _ => rfl)) (fun _ _ => rfl)) pa_nil))))
  (pss_one (ps_ret (pe_call (ok_law_not A) (hr.mono (by omega)) rfl A.law_not.m A.law_not.F.kp A.law_not.b .nil pass0 (pa_cons (pv 1) (pa_cons (pe_call (ok_law_row A) (hr.mono (by omega)) rfl A.law_row.m A.law_row.F.kp A.law_row.b .nil pass0 (pa_cons (pv 1) (pa_cons (pe_tup (pa_cons pe_str (pa_cons (pv 5) (pa_cons (pv 6) pa_nil)))) pa_nil))) pa_nil)))))))
    pss_nil)
  (pss_cons (ps_set (i := 7) sc_law_reading_row.nd rfl (Or.inl rfl) (pe_call (ok_law_row A) (hr.mono (by omega)) rfl A.law_row.m A.law_row.F.kp A.law_row.b .nil pass0 (pa_cons (pv 1) (pa_cons (pe_call (ok_law_moved A) (hr.mono (by omega)) rfl A.law_moved.m A.law_moved.F.kp A.law_moved.b .nil pass0 (pa_cons (pv 4) (pa_cons (pv 3) pa_nil))) pa_nil))))
  (pss_cons (ps_if (PW.pt (pw_and (pt_cmpR op_eq (pv 0) pe_str (nomark _)) (pw_and1 (pt_cmpR op_eq (pe_ix ix_tup (pv 4) pe_int (fun _ _ => rfl)) pe_str (nomark _)))))
    (pss_one (ps_ret (pe_call (ok_law_row A) (hr.mono (by omega)) rfl A.law_row.m A.law_row.F.kp A.law_row.b .nil pass0 (pa_cons (pv 1) (pa_cons (pe_tup (pa_cons pe_str (pa_cons (pv 7) pa_nil))) pa_nil)))))
    pss_nil)
  (pss_cons (ps_if (PW.pt (pw_and (pt_cmpR op_eq (pv 0) pe_str (nomark _)) (pw_and1 (pt_cmpR op_eq (pe_ix ix_tup (pv 4) pe_int (fun _ _ => rfl)) pe_str (nomark _)))))
    (pss_one (ps_ret (pe_call (ok_law_row A) (hr.mono (by omega)) rfl A.law_row.m A.law_row.F.kp A.law_row.b .nil pass0 (pa_cons (pv 1) (pa_cons (pe_tup (pa_cons pe_str (pa_cons (pe_dget (hu_of hr) (pv 3) (pe_ix ix_tup (pv 4) pe_int (fun _ _ => rfl)) (fun _ _ => rfl)) (pa_cons (pv 7) pa_nil)))) pa_nil)))))
    pss_nil)
  (pss_one (ps_ret (pv 7)))))))))), ?_⟩
    obtain ⟨rs, r0, rd⟩ := B.rows
    obtain ⟨v, hv, isv⟩ := rd.get (i := at_) (d := n.data) (by rw [List.getElem?_map, hn]; rfl)
    obtain ⟨a, rfl, ha⟩ := nd_is isv
    have W := A.W
    have hal := B.al
    have kk : bk ∉ [b0, b1] := fun z => by
      rcases List.mem_cons.mp z with z | z
      · exact kM (by rw [z]; exact B.m0)
      · exact kM (by rw [List.mem_singleton.mp z]; exact B.m1)
    have dd : d ∉ [b0, b1] := by simp [d0, d1]
    have mM : ∀ b ∈ [b0, b1], b ∈ M := by simp [B.m0, B.m1]
    -- behind the moved node
    have go : ∀ {H1 p n' Q'}, Adv [] H H1 → Tp M H1 p (n'.keys.map kV) → (∀ H2, H2 bk = some (.lst [.ref b0, .ref b1]) → Tp M H2 a (n.keys.map kV) → BkN M H2 b0 b1 (rowF ns n').2 → Adv [b0, b1] H H2 → Q' (.int ((rowF ns n').1 : Nat)) H2) → RowP [.ref bk, .ref p] H1 Q' := fun {H1 p n' Q'} a1 hp1 k =>
      ⟨⟨M, bk, b0, b1, p, ns, n', rfl, a1.same _ _ hbk, kM, B.same a1, hp1, by omega, fun H2 B2 a2 => k H2 (a2 _ _ kk (a1.same _ _ hbk)) ((ha.adv (Adv.nil a1)).adv (a2.more mM)) B2 ((Adv.nil a1).trans a2)⟩⟩
    have h1 := deny_len ns at_
    cases n with
    | no =>
      walk_at "rd"
      have : stepF wd ns at_ .no f = (at_, ns) := by cases wd <;> rfl
      rw [this] at q
      exact q H B (Adv.refl _ _)
    | letter i =>
      cases wd with
      | dou =>
        walk_at "rd"
        exact q H B (Adv.refl _ _)
      | neg =>
        walk_at "rd"
        exact ⟨M, bk, b0, b1, ns, at_, rfl, hbk, kM, B, by omega, fun H1 B1 a1 => ⟨M, bk, b0, b1, _, _, rfl, a1 _ _ kk hbk, kM, B1, by omega, fun H2 B2 a2 => q H2 B2 (a1.trans a2)⟩⟩
      | box =>
        walk_at "rd"
        refine ⟨by show 2 ≤ sizeLine; decide, fun p np => ?_⟩
        walk_at "rd"
        exact row_callN (.box at_) hbk kM B np (by omega) fun H1 hbk1 B1 a1 => q H1 B1 a1
    | bin o j k =>
      have hj := new_get hd (hp j (by simp [Nd.parts]))
      have hk := new_get hd (hp k (by simp [Nd.parts]))
      have h2 := deny_len ns (f j)
      have h3 := deny_len (denyF ns (f j)).2 (f k)
      have h4 := row_len (denyF (denyF ns (f j)).2 (f k)).2 (.bin .and (denyF ns (f j)).1 (denyF (denyF ns (f j)).2 (f k)).1)
      -- the moved node is all
      have plain : wd = .dou ∨ (wd = .box ∧ o ≠ .imp) ∨ (wd = .neg ∧ o ≠ .or) → stepF wd ns at_ (.bin o j k) f = rowF ns (.bin o (f j) (f k)) := fun z => by
        rcases z with rfl | ⟨rfl, z⟩ | ⟨rfl, z⟩ <;> cases o <;> first | rfl | exact absurd rfl z
      have h5 := row_len ns (.bin o (f j) (f k))
      cases wd with
      | neg =>
        by_cases ho : o = .or
        · subst ho
          walk_at "rd"
          refine rd_dget hj ?_
          walk_at "rd"
          refine ⟨M, bk, b0, b1, ns, f j, rfl, hbk, kM, B, by omega, fun H1 B1 a1 => ?_⟩
          have ha1 := ha.adv (a1.more mM)
          have hk1 := new_get (a1 _ _ dd hd) (hp k (by simp [Nd.parts]))
          walk_at "rd"
          refine rd_dget hk1 ?_
          walk_at "rd"
          refine ⟨M, bk, b0, b1, _, f k, rfl, a1 _ _ kk hbk, kM, B1, by omega, fun H2 B2 a2 => ?_⟩
          walk_at "rd"
          refine ⟨by show 3 ≤ sizeLine; decide, fun p np => ?_⟩
          walk_at "rd"
          refine row_callN (.bin .and (denyF ns (f j)).1 (denyF (denyF ns (f j)).2 (f k)).1) (a2 _ _ kk (a1 _ _ kk hbk)) kM B2 np (by omega) fun H3 hbk3 B3 a3 => ?_
          walk_at "rd"
          exact ⟨M, bk, b0, b1, _, _, rfl, hbk3, kM, B3, by omega, fun H4 B4 a4 => q H4 B4 (((a1.trans a2).trans a3).trans a4)⟩
        · rw [plain (.inr (.inr ⟨rfl, ho⟩))] at q
          cases o with
          | or => exact absurd rfl ho
          | and =>
            walk_at "rd"
            refine ⟨M, a, d, .bin .and j k, l, f, rfl, ha, hal, hd, hp, fun p H1 hp1 a1 => ?_⟩
            walk_at "rd"
            refine go (n' := .bin .and (f j) (f k)) a1 hp1 fun H2 hbk2 ha2 B2 a2 => ?_
            walk_at "rd"
            exact q H2 B2 a2
          | imp =>
            walk_at "rd"
            refine ⟨M, a, d, .bin .imp j k, l, f, rfl, ha, hal, hd, hp, fun p H1 hp1 a1 => ?_⟩
            walk_at "rd"
            refine go (n' := .bin .imp (f j) (f k)) a1 hp1 fun H2 hbk2 ha2 B2 a2 => ?_
            walk_at "rd"
            exact q H2 B2 a2
      | box =>
        cases o with
        | imp =>
          walk_at "rd"
          refine ⟨M, a, d, .bin .imp j k, l, f, rfl, ha, hal, hd, hp, fun p H1 hp1 a1 => ?_⟩
          walk_at "rd"
          refine go (n' := .bin .imp (f j) (f k)) a1 hp1 fun H2 hbk2 ha2 B2 a2 => ?_
          walk_at "rd"
          refine ⟨by show 2 ≤ sizeLine; decide, fun p2 np2 => ?_⟩
          walk_at "rd"
          exact row_callN (.box (rowF ns (.bin .imp (f j) (f k))).1) hbk2 kM B2 np2 (by omega) fun H3 hbk3 B3 a3 => q H3 B3 (a2.trans a3)
        | and =>
          walk_at "rd"
          refine ⟨M, a, d, .bin .and j k, l, f, rfl, ha, hal, hd, hp, fun p H1 hp1 a1 => ?_⟩
          walk_at "rd"
          refine go (n' := .bin .and (f j) (f k)) a1 hp1 fun H2 hbk2 ha2 B2 a2 => ?_
          walk_at "rd"
          exact q H2 B2 a2
        | or =>
          walk_at "rd"
          refine ⟨M, a, d, .bin .or j k, l, f, rfl, ha, hal, hd, hp, fun p H1 hp1 a1 => ?_⟩
          walk_at "rd"
          refine go (n' := .bin .or (f j) (f k)) a1 hp1 fun H2 hbk2 ha2 B2 a2 => ?_
          walk_at "rd"
          exact q H2 B2 a2
      | dou =>
        rw [plain (.inl rfl)] at q
        cases o <;>
        · walk_at "rd"
          refine ⟨M, a, d, .bin _ j k, l, f, rfl, ha, hal, hd, hp, fun p H1 hp1 a1 => ?_⟩
          walk_at "rd"
          refine go (n' := .bin _ (f j) (f k)) a1 hp1 fun H2 hbk2 ha2 B2 a2 => ?_
          walk_at "rd"
          exact q H2 B2 a2
    | box j =>
      have hj := new_get hd (hp j (by simp [Nd.parts]))
      have h5 := row_len ns (.box (f j))
      cases wd with
      | dou =>
        walk_at "rd"
        refine ⟨M, a, d, .box j, l, f, rfl, ha, hal, hd, hp, fun p H1 hp1 a1 => ?_⟩
        walk_at "rd"
        refine go (n' := .box (f j)) a1 hp1 fun H2 hbk2 ha2 B2 a2 => ?_
        have hj2 := new_get (a2 _ _ dd hd) (hp j (by simp [Nd.parts]))
        walk_at "rd"
        refine rd_dget hj2 ?_
        walk_at "rd"
        refine ⟨by show 3 ≤ sizeLine; decide, fun p2 np2 => ?_⟩
        walk_at "rd"
        exact row_callN (.bin .and (f j) (rowF ns (.box (f j))).1) hbk2 kM B2 np2 (by omega) fun H3 hbk3 B3 a3 => q H3 B3 (a2.trans a3)
      | neg =>
        walk_at "rd"
        refine ⟨M, a, d, .box j, l, f, rfl, ha, hal, hd, hp, fun p H1 hp1 a1 => ?_⟩
        walk_at "rd"
        refine go (n' := .box (f j)) a1 hp1 fun H2 hbk2 ha2 B2 a2 => ?_
        walk_at "rd"
        exact q H2 B2 a2
      | box =>
        walk_at "rd"
        refine ⟨M, a, d, .box j, l, f, rfl, ha, hal, hd, hp, fun p H1 hp1 a1 => ?_⟩
        walk_at "rd"
        refine go (n' := .box (f j)) a1 hp1 fun H2 hbk2 ha2 B2 a2 => ?_
        walk_at "rd"
        exact q H2 B2 a2
end
end K60

set_option Elab.async false
set_option linter.all false
set_option maxRecDepth 100000
set_option maxHeartbeats 400000
namespace K60
open PySem PySem.Spec PyProof.Rows L2 LL
section
variable [KW]
variable {P : Program} {w : World} {K : PySem.W.Frag} {mg : Str → Option Value} {base : Heap}
/-! ### _law_read -/
structure ReadAllP (vs : List V) (H : Hp) (Q : VK) : Prop where
  ex : ∃ (M : List Addr) (bk b0 b1 rw_ : Addr) (ns : List Nd) (rows : List Nat) (boxed : Bool) (wd : W3), vs = [.str wd.str, .ref bk, .ref rw_] ∧ H bk = some (.lst [.ref b0, .ref b1]) ∧ bk ∉ M ∧ BkN M H b0 b1 ns ∧ okSheet boxed ns ∧ ns.length ≤ 80000 ∧
    H rw_ = some (.lst (nV rows)) ∧ (∀ r ∈ rows, r < ns.length) ∧ rows.length ≤ 80000 ∧
    ∀ d H', H d = none → H' d = some (.dK (newT (belowF ns rows) (readF wd ns (belowF ns rows) ns (fun _ => 0)).2)) → BkN M H' b0 b1 (readF wd ns (belowF ns rows) ns (fun _ => 0)).1 → Adv [b0, b1] H H' → Q (.ref d) H'
def spReadAll : Sp := fun vs H Q _ => ReadAllP vs H Q
theorem ok_law_read (A : All K mg w) : FnOk P w K mg base CX0 4 A.law_read.f A.law_read.fd ["word", "book", "rows"] spReadAll := by
  refine A.law_read.F.ok sc_law_read (fun vs H Q E h => ?_) (fun cdv Ar outer s H vs Q E hr h => ?_)
  · obtain ⟨M, bk, b0, b1, rw_, ns, rows, boxed, wd, rfl, _⟩ := h.ex
    rfl
  · obtain ⟨M, bk, b0, b1, rw_, ns, rows, boxed, wd, rfl, hbk, kM, B, ok, hl, hrw, hrows, hl2, q⟩ := h.ex
    refine ⟨_, (pss_cons (ps_set (i := 3) sc_law_read.nd rfl (Or.inl rfl) pe_dnewK)
  (pss_cons (ps_for PassesOwn.never rfl (pi_list (pe_call (ok_law_below A) (hr.mono (by omega)) rfl A.law_below.m A.law_below.F.kp A.law_below.b .nil pass0 (pa_cons (pe_ix ix_list (pv 1) pe_int (fun _ _ => rfl)) (pa_cons (pv 2) pa_nil)))) (pg_name (i := 4) sc_law_read.nd rfl (Or.inl rfl))
    (pss_one (ps_dput (hu_of hr) (pv 3) (pv 4) (pe_call (ok_law_reading_row A) (hr.mono (by omega)) rfl A.law_reading_row.m A.law_reading_row.F.kp A.law_reading_row.b .nil pass0 (pa_cons (pv 0) (pa_cons (pv 1) (pa_cons (pv 4) (pa_cons (pv 3) pa_nil))))) rfl)))
  (pss_one (ps_ret (pv 3))))), ?_⟩
    intro d nd
    have ad : Adv [] H (upd H d (.dK [])) := Adv.new nd
    have B1 := B.same ad
    obtain ⟨rs, r0, rd⟩ := B1.rows
    refine ⟨_, rfl, bk, _, 0, _, rfl, rfl, SqL.of (ad.same _ _ hbk), atI_nat (j := 0) rfl, _, rfl, b0, rw_, ns, rs, rows, boxed, rfl, r0, rd.less (by simp), ad.same _ _ hrw, hrows, ok, hl, hl2, fun L H2 nL hL a2 => ?_⟩
    refine ⟨L, rfl, ⟨_, SqL.of hL⟩, ?_⟩
    have hd2 := a2.same _ _ (show (upd H d (.dK [])) d = some (.dK []) from upd_same)
    have nLd : L ≠ d := fun z => by rw [z, upd_same] at nL; cases nL
    have B2 := B1.same a2
    have aH2 := ad.trans a2
    have nL0 : H L = none := ad.free (by simp) nL
    have alM := B.al
    have d0 : d ≠ b0 := fun z => B.al b0 B.m0 (by rw [← z]; exact nd)
    have d1 : d ≠ b1 := fun z => B.al b1 B.m1 (by rw [← z]; exact nd)
    have L0 : L ≠ b0 := fun z => B.al b0 B.m0 (by rw [← z]; exact nL0)
    have L1 : L ≠ b1 := fun z => B.al b1 B.m1 (by rw [← z]; exact nL0)
    have k01 : bk ∉ [b0, b1] := fun z => by
      rcases List.mem_cons.mp z with z | z
      · exact kM (by rw [z]; exact B.m0)
      · exact kM (by rw [List.mem_singleton.mp z]; exact B.m1)
    have kd : bk ≠ d := fun z => by rw [z, nd] at hbk; cases hbk
    have dM : d ∉ M := fun z => B.al d z nd
    refine for_list (a := L) (xs := nV (belowF ns rows)) (fun i σ' H' => ∃ x4, σ' = [some (.str wd.str), some (.ref bk), some (.ref rw_), some (.ref d), x4] ∧ H' L = some (.lst (nV (belowF ns rows))) ∧ H' bk = some (.lst [.ref b0, .ref b1]) ∧
        H' d = some (.dK (newT ((belowF ns rows).take i) (readF wd ns ((belowF ns rows).take i) ns (fun _ => 0)).2)) ∧ BkN (d :: M) H' b0 b1 (readF wd ns ((belowF ns rows).take i) ns (fun _ => 0)).1 ∧ Adv [b0, b1] H H')
      ⟨_, rfl, hL, aH2.same _ _ hbk, hd2, (B.fresh nd).same a2, Adv.nil aH2⟩ ?_ ?_ ?_
    · rintro i σ' H' hi ⟨x4, rfl, hL', _⟩
      exact SqL.of hL'
    · rintro i x σ' H' hx ⟨x4, rfl, hL', hbk', hd', B', a'⟩
      obtain ⟨r, hr1, rfl⟩ : ∃ r, (belowF ns rows)[i]? = some r ∧ V.int (r : Nat) = x := by
        unfold nV at hx
        rw [List.getElem?_map, Option.map_eq_some_iff] at hx
        exact hx
      have hrm := List.mem_of_getElem? hr1
      have hrn := (below_mem.mp hrm).1
      have hnr : ns[r]? = some ns[r] := List.getElem?_eq_getElem hrn
      have hpre := readF_pre wd ns ((belowF ns rows).take i) ns (fun _ => 0)
      have hlen := readF_len wd ns ((belowF ns rows).take i) ns (fun _ => 0)
      have hbl : (belowF ns rows).length ≤ ns.length := by
        have := List.length_filter_le (marked ns rows) (List.range ns.length)
        rw [List.length_range] at this
        exact this
      have htl : ((belowF ns rows).take i).length ≤ ns.length := by rw [List.length_take]; omega
      have hat : (readF wd ns ((belowF ns rows).take i) ns (fun _ => 0)).1[r]? = some ns[r] := by
        obtain ⟨t, ht⟩ := hpre
        rw [← ht, List.getElem?_append_left hrn, hnr]
      have hpt : ∀ p ∈ (ns[r]).parts, p ∈ (belowF ns rows).take i := fun p hp => by
        obtain ⟨h1, h2⟩ := below_parts ok hrm hnr p hp
        exact below_take hr1 h1 h2
      refine ⟨_, rfl, _, rfl, _, rfl, _, rfl, d :: M, bk, b0, b1, d, _, r, ns[r], _, _, wd, rfl, hbk', by simp [kd, kM], B', d0, d1, hd', hpt, hat, by omega, fun H3 B3 a3 => ?_⟩
      have hd3 := a3 _ _ (by simp [d0, d1]) hd'
      refine ⟨_, rfl, _, rfl, d, _, rfl, DPut.k (k := (Sum.inl (r : Int) : Key)) hd3 (by unfold newT; rw [List.length_map, sizeLine_eq]; omega), ?_⟩
      rw [new_put (below_notin hr1)]
      have e1 : (belowF ns rows).take (i + 1) = (belowF ns rows).take i ++ [r] := by rw [List.take_succ, hr1]; rfl
      rw [e1, readF_snoc, hnr]
      refine ⟨_, rfl, by rw [upd_ne nLd]; exact a3 _ _ (by simp [L0, L1]) hL', by rw [upd_ne kd]; exact a3 _ _ k01 hbk', upd_same, ?_, (a'.trans a3).mut nd⟩
      exact B3.adv (N := [d]) (Adv.set (by simp)) (by simpa using d0.symm) (by simpa using d1.symm) (by simp) (fun b hb => by rw [List.mem_singleton.mp hb, upd_same]; simp)
    · rintro σ' H' ⟨x4, rfl, hL', hbk', hd', B', a'⟩
      have et : (belowF ns rows).take (nV (belowF ns rows)).length = belowF ns rows := by unfold nV; rw [List.length_map, List.take_length]
      rw [et] at hd' B'
      exact ⟨_, rfl, q d H' nd hd' (B'.less (by simp +contextual) B.m0 B.m1) a'⟩
end
end K60

set_option Elab.async false
set_option linter.all false
set_option maxRecDepth 100000
set_option maxHeartbeats 400000
namespace K60
open PySem PySem.Spec PyProof.Rows L2 LL
local macro_rules | `(tactic| walk_at "ne") => `(tactic| first | assumption | (apply Ne.symm; assumption) | exact ne_of_none (by walk_at "hp") (by assumption) | exact (ne_of_none (by walk_at "hp") (by assumption)).symm)
local macro_rules | `(tactic| walk_at "nm") => `(tactic| first | assumption | exact notin0 | exact notin1 (by walk_at "ne") | exact notin2 (by walk_at "ne") (by walk_at "ne"))
local macro_rules | `(tactic| walk_at "hp") => `(tactic| first | assumption | exact upd_same | (refine Eq.trans (upd_ne ?ne) ?hh; (case hh => walk_at "hp"); (case ne => walk_at "ne")) | (refine Adv.get' (by assumption) ?hh ?nn; (case hh => walk_at "hp"); (case nn => walk_at "nm")))
local macro_rules | `(tactic| walk_at "tp") => `(tactic| first | assumption | exact Tp.adv (by walk_at "tp") (by assumption) | exact Tp.adv (by walk_at "tp") (Adv.nil (by assumption)))
local macro_rules | `(tactic| walk_at "sq") => `(tactic| first | assumption | exact Tp.sq (by assumption) (by walk_at "tp") | exact SqT.of (by walk_at "hp"))
local macro_rules | `(tactic| walk_at "at") => `(tactic| first | exact atI_nat (j := 0) rfl | exact atI_nat (j := 1) rfl | exact atI_nat (j := 2) rfl | exact atI_nat (j := 3) rfl | exact atI_nat (by assumption) | (rw [Int.zero_add]; exact atI_nat (by assumption)))
local macro_rules | `(tactic| walk_at "bb") => `(tactic| first | assumption | decide | exact rfl)
local macro_rules | `(tactic| walk_at "ci") => `(tactic| first | omega | (dsimp only; omega) | (unfold CDiv; omega) | (unfold CMul; omega))
local macro_rules | `(tactic| walk_at "rd1") => `(tactic| first
  | with_reducible refine rd_c ?_
  | ((with_reducible refine' rd_var ?rh ?_); (case rh => exact rfl))
  | with_reducible refine rd_op ?_
  | with_reducible refine rd_seq ?_
  | with_reducible refine rd_asg ?_
  | with_reducible refine rd_gname ?_
  | with_reducible refine rd_ifS ?_
  | with_reducible refine rd_test ?_
  | with_reducible refine rd_tB ?_
  | with_reducible refine rd_blP ?_
  | ((with_reducible refine' iteY ?rh ?_); (case rh => walk_at "bb"))
  | ((with_reducible refine' iteN ?rh ?_); (case rh => walk_at "bb"))
  | with_reducible refine rd_ret ?_
  | with_reducible refine rd_nx ?_
  | ((with_reducible refine' rd_eq ?rh ?_); (case rh => exact rfl))
  | ((with_reducible refine' rd_ne ?rh ?_); (case rh => exact rfl))
  | with_reducible refine rd_add ?_
  | with_reducible refine rd_sub ?_
  | with_reducible refine rd_i0 ?_
  | with_reducible refine rd_and ?_
  | with_reducible refine rd_or ?_
  | with_reducible refine rd_not ?_
  | with_reducible refine rd_andV ?_
  | with_reducible refine rd_orV ?_
  | with_reducible refine rd_notV ?_
  | with_reducible refine rd_ifE ?_
  | with_reducible refine rd_isN ?_
  | with_reducible refine rd_notN ?_
  | with_reducible refine rd_cons ?_
  | with_reducible refine rd_nil ?_
  | with_reducible refine rd_tup ?_
  | with_reducible refine rd_lst ?_
  | with_reducible refine rd_call ?_
  | with_reducible refine rd_cb ?_
  | with_reducible refine rd_meth ?_
  | with_reducible refine rd_callS ?_
  | with_reducible refine rd_make ?_
  | with_reducible refine rd_rfl ?_
  | with_reducible refine rd_fld ?_
  | with_reducible refine rd_drop ?_
  | with_reducible refine rd_gsub ?_
  | with_reducible refine rd_gcons ?_
  | with_reducible refine rd_gnil ?_
  | with_reducible refine rd_par ?_
  | with_reducible refine rd_two ?_
  | with_reducible refine rd_par3 ?_
  | with_reducible refine rd_three ?_
  | with_reducible refine rd_int1 ?_
  | ((with_reducible refine' rd_i ?rh ?_); (case rh => walk_at "ci"))
  | with_reducible refine rd_part ?_
  | with_reducible refine rd_nopart ?_
  | with_reducible refine rd_int ?_
  | with_reducible refine rd_sl ?_
  | with_reducible refine rd_bm ?_
  | with_reducible refine rd_bm0 ?_
  | with_reducible refine rd_dgetT ?_
  | with_reducible refine rd_din ?_
  | with_reducible refine rd_dnin ?_
  | with_reducible refine rd_un ?_
  | ((with_reducible refine' rd_ixL ?rh ?re ?_); (case rh => walk_at "hp"); (case re => walk_at "at"))
  | ((with_reducible refine' rd_ixT ?rh ?re ?_); (case rh => walk_at "sq"); (case re => walk_at "at"))
  | ((with_reducible refine' rd_lenT ?rh ?_); (case rh => walk_at "sq"))
  | ((with_reducible refine' rd_tyL ?rh ?_); (case rh => walk_at "hp"))
  | ((with_reducible refine' rd_len ?rh ?_); (case rh => walk_at "hp"))
  | with_reducible refine rd_u ?_
  | ((with_reducible refine' rd_slL ?rh ?_); (case rh => walk_at "hp"))
  | with_reducible refine rd_for ?_
  | with_reducible refine rd_rng1 ?_
  | with_reducible refine rd_rng2 ?_
  | with_reducible refine rd_ints1 ?_
  | with_reducible refine rd_ints2 ?_
  | with_reducible refine rd_retN ?_)
local macro_rules | `(tactic| walk_at "rd") => `(tactic| repeat walk_at "rd1")
abbrev s_Growing_init : Stmt := inClass (top 46) 0
theorem sc_Growing_init : FnScope ["self", "sheet"] ["self", "sheet"] (defScope s_Growing_init) := ⟨rfl, rfl, rfl, by decide +kernel, rfl, by decide +kernel, by decide +kernel⟩
abbrev s_Growing_node_row : Stmt := inClass (top 46) 1
theorem sc_Growing_node_row : FnScope ["self", "node"] ["self", "node"] (defScope s_Growing_node_row) := ⟨rfl, rfl, rfl, by decide +kernel, rfl, by decide +kernel, by decide +kernel⟩
abbrev s_Growing_deny : Stmt := inClass (top 46) 2
theorem sc_Growing_deny : FnScope ["self", "row"] ["self", "row"] (defScope s_Growing_deny) := ⟨rfl, rfl, rfl, by decide +kernel, rfl, by decide +kernel, by decide +kernel⟩
/-- what the top has written of the class -/
structure Grw (K : PySem.W.Frag) (mg : Str → Option Value) where
  C : Addr
  fI : Addr
  fN : Addr
  fD : Addr
  dI : FuncData
  dN : FuncData
  dD : FuncData
  m : mg "Growing" = some (.ref C)
  cl : Cls K C
  nS : NoAttr K C "sheet"
  nT : NoAttr K C "table"
  mkc : Mk K C fI
  mN : Meth K C "node_row" fN
  mD : Meth K C "deny" fD
  FI : Fun K "__init__" "Growing.__init__" s_Growing_init fI dI
  FN : Fun K "node_row" "Growing.node_row" s_Growing_node_row fN dN
  FD : Fun K "deny" "Growing.deny" s_Growing_deny fD dD
  bI : Binds K dI ["self", "sheet"] []
  bN : Binds K dN ["self", "node"] []
  bD : Binds K dD ["self", "row"] []
def gfl (b0 b1 : Addr) : List (Str × V) := [("sheet", .ref b0), ("table", .ref b1)]
theorem gfl_put (b0 b1 : Addr) : putF "table" (.ref b1) (putF "sheet" (.ref b0) []) = gfl b0 b1 := by
  show (if ("sheet" : Str) = "table" then _ else (("sheet" : Str), V.ref b0) :: putF "table" (.ref b1) []) = gfl b0 b1
  rw [if_neg (by decide +kernel)]
  rfl
theorem lk_hit {k : Str} {v : V} {r : List (Str × V)} : List.lookup k ((k, v) :: r) = some v := by simp [List.lookup]
theorem lk_miss {k k' : Str} {v : V} {r : List (Str × V)} (h : (k == k') = false) : List.lookup k ((k', v) :: r) = List.lookup k r := by simp [List.lookup, h]
theorem gfl_s (b0 b1 : Addr) : (gfl b0 b1).lookup ("sheet" : Str) = some (.ref b0) := lk_hit
theorem gfl_t (b0 b1 : Addr) : (gfl b0 b1).lookup ("table" : Str) = some (.ref b1) := (lk_miss (by decide +kernel)).trans lk_hit
theorem gfl_no (b0 b1 : Addr) {m : Str} (h1 : (m == "sheet") = false) (h2 : (m == "table") = false) : (gfl b0 b1).lookup m = none := (lk_miss h1).trans ((lk_miss h2).trans rfl)
section
variable [KW]
variable {P : Program} {w : World} {K : PySem.W.Frag} {mg : Str → Option Value} {base : Heap}
/-! ### __init__ -/
structure GInitP (C : Addr) (vs : List V) (H : Hp) (Q : VK) : Prop where
  ex : ∃ (M : List Addr) (g dx sh : Addr) (rs : List V) (ns : List Nd), vs = [.ref g, .ref sh] ∧ H g = some (.ins C dx []) ∧ H sh = some (.lst rs) ∧ IsDs (g :: M) H (ns.map Nd.data) rs ∧ (∀ b ∈ M, H b ≠ none) ∧ ns.Nodup ∧ ns.length ≤ 80000 ∧
    ∀ b0 b1 H', H b0 = none → H b1 = none → BkN (b0 :: b1 :: M) H' b0 b1 ns → H' g = some (.ins C dx (gfl b0 b1)) → Adv [g] H H' → Q .non H'
def spGInit (C : Addr) : Sp := fun vs H Q _ => GInitP C vs H Q
theorem ok_g_init (A : All K mg w) (G : Grw K mg) : FnOk P w K mg base CX0 2 G.fI G.dI ["self", "sheet"] (spGInit G.C) := by
  refine G.FI.ok sc_Growing_init (fun vs H Q E h => ?_) (fun cdv Ar outer s H vs Q E hr h => ?_)
  · obtain ⟨M, g, dx, sh, rs, ns, rfl, _⟩ := h.ex
    rfl
  · obtain ⟨M, g, dx, sh, rs, ns, rfl, hg, hsh, rd, hal, hnd, hl, q⟩ := h.ex
    refine ⟨_, (pss_cons (ps_fld (pv 0) (pe_callTy call_list_of (by rfl) A.T.list (by decide +kernel) (pa_cons (pv 1) pa_nil)) rfl)
  (pss_one (ps_fld (pv 0) (pe_call (ok_places A) (hr.mono (by omega)) rfl A.places.m A.places.F.kp A.places.b .nil pass0 (pa_cons (pv 1) pa_nil)) rfl))), ?_⟩
    refine ⟨_, rfl, sh, rs, rfl, .inl (SqL.of hsh), fun l nl => ?_⟩
    have gl : g ≠ l := ne_of_none hg nl
    have shg : sh ≠ g := ne_of hsh hg (by intro z; cases z)
    have shl : sh ≠ l := ne_of_none hsh nl
    refine ⟨_, rfl, g, G.C, dx, [], rfl, by rw [upd_ne gl]; exact hg, G.cl, G.nS, by decide, ?_⟩
    have a1 : Adv [g] H (upd (upd H l (.lst rs)) g (.ins G.C dx (putF "sheet" (.ref l) []))) := (Adv.new nl).trans (Adv.set (by simp))
    refine ⟨_, rfl, ⟨⟨g :: M, sh, rs, ns, rfl, by rw [upd_ne shg, upd_ne shl]; exact hsh, rd.adv (a1.more (by simp)), hnd, hl, fun T H2 nT tab a2 => ?_⟩⟩⟩
    have h1g : (upd (upd H l (.lst rs)) g (.ins G.C dx (putF "sheet" (.ref l) []))) g = some (.ins G.C dx (putF "sheet" (.ref l) [])) := upd_same
    have h1l : (upd (upd H l (.lst rs)) g (.ins G.C dx (putF "sheet" (.ref l) []))) l = some (.lst rs) := by rw [upd_ne gl.symm, upd_same]
    have gT : g ≠ T := ne_of_none h1g nT
    have lT : l ≠ T := ne_of_none h1l nT
    have nT0 : H T = none := by rw [upd_ne gT.symm, upd_ne lT.symm] at nT; exact nT
    refine ⟨_, rfl, g, G.C, dx, _, rfl, a2.same _ _ h1g, G.cl, G.nT, by show 1 < 1000; decide, ?_⟩
    rw [gfl_put]
    have a3 : Adv [g] H2 (upd H2 g (.ins G.C dx (gfl l T))) := Adv.set (by simp)
    have a03 : Adv [g] H (upd H2 g (.ins G.C dx (gfl l T))) := (a1.trans (Adv.nil a2)).trans a3
    have h3l : (upd H2 g (.ins G.C dx (gfl l T))) l = some (.lst rs) := by rw [upd_ne gl.symm]; exact a2.same _ _ h1l
    refine q l T _ nl nT0 ⟨⟨rs, h3l, ?_⟩, ?_, by simp, by simp, lT, ?_⟩ upd_same a03
    · have r2 : IsDs (l :: T :: g :: M) H (ns.map Nd.data) rs := (rd.fresh nT0).fresh nl
      exact (r2.adv (a03.more (by simp))).less (by simp; exact fun b h => .inr (.inr (.inr h)))
    · have t2 : Tab (T :: g :: M) (upd H2 g (.ins G.C dx (gfl l T))) T (tabG 0 ns) := tab.adv a3 (by simpa using gT.symm) (by simp)
      obtain ⟨kas, k1, k2, k3⟩ := t2.ex
      refine ⟨⟨kas, k1, k2, fun p hp => ?_⟩⟩
      have t1 := k3 p hp
      -- the list l is no tuple
      rcases t1 with ⟨na, ha⟩ | t1
      · refine .inl ⟨fun z => ?_, ha⟩
        rcases List.mem_cons.mp z with z | z
        · rw [z, h3l] at ha; cases ha
        · rcases List.mem_cons.mp z with z | z
          · exact na (by simp [z])
          · exact na (by simp [z])
      · exact .inr t1
    · intro b hb
      rcases List.mem_cons.mp hb with z | hb
      · rw [z, h3l]; simp
      · rcases List.mem_cons.mp hb with z | hb
        · rw [z]; exact (tab.adv a3 (by simpa using gT.symm) (by simp)).here
        · by_cases z : b = g
          · rw [z, upd_same]; simp
          · cases e : H b with
            | none => exact absurd e (hal b hb)
            | some o => rw [a03 _ _ (by simpa using z) e]; simp
/-! ### node_row, deny -/
structure NodeP (C : Addr) (vs : List V) (H : Hp) (Q : VK) : Prop where
  ex : ∃ (M : List Addr) (g dx b0 b1 nd : Addr) (ns : List Nd) (n : Nd), vs = [.ref g, .ref nd] ∧ H g = some (.ins C dx (gfl b0 b1)) ∧ g ∉ M ∧ BkN M H b0 b1 ns ∧ Tp M H nd (n.keys.map kV) ∧ ns.length ≤ 1000000 ∧
    ∀ H', BkN M H' b0 b1 (rowF ns n).2 → Adv [b0, b1] H H' → H' g = some (.ins C dx (gfl b0 b1)) → Q (.int ((rowF ns n).1 : Nat)) H'
def spNodeRow (C : Addr) : Sp := fun vs H Q _ => NodeP C vs H Q
theorem notin_bk {M : List Addr} {H : Hp} {g b0 b1 : Addr} {ns : List Nd} (B : BkN M H b0 b1 ns) (h : g ∉ M) : g ∉ [b0, b1] := fun z => by
  rcases List.mem_cons.mp z with z | z
  · exact h (by rw [z]; exact B.m0)
  · exact h (by rw [List.mem_singleton.mp z]; exact B.m1)
theorem ok_node_row (A : All K mg w) (G : Grw K mg) : FnOk P w K mg base CX0 2 G.fN G.dN ["self", "node"] (spNodeRow G.C) := by
  refine G.FN.ok sc_Growing_node_row (fun vs H Q E h => ?_) (fun cdv Ar outer s H vs Q E hr h => ?_)
  · obtain ⟨M, g, dx, b0, b1, nd, ns, n, rfl, _⟩ := h.ex
    rfl
  · obtain ⟨M, g, dx, b0, b1, nd, ns, n, rfl, hg, gM, B, hnd, hl, q⟩ := h.ex
    refine ⟨_, (pss_one (ps_ret (pe_call (ok_row_for A) (hr.mono (by omega)) rfl A.row_for.m A.row_for.F.kp A.row_for.b .nil pass0 (pa_cons (pe_fld (pv 0) rfl) (pa_cons (pe_fld (pv 0) rfl) (pa_cons (pv 1) pa_nil)))))), ?_⟩
    walk_at "rd"
    refine rd_fldA hg G.cl G.nS (gfl_s _ _) ?_
    walk_at "rd"
    refine rd_fldA hg G.cl G.nT (gfl_t _ _) ?_
    walk_at "rd"
    exact ⟨⟨M, b0, b1, nd, ns, n, rfl, B, hnd, hl, fun H' B' a => q H' B' a (a _ _ (notin_bk B gM) hg)⟩⟩
structure DenyP (C : Addr) (vs : List V) (H : Hp) (Q : VK) : Prop where
  ex : ∃ (M : List Addr) (g dx b0 b1 : Addr) (ns : List Nd) (r : Nat), vs = [.ref g, .int r] ∧ H g = some (.ins C dx (gfl b0 b1)) ∧ g ∉ M ∧ BkN M H b0 b1 ns ∧ ns.length ≤ 900000 ∧
    ∀ H', BkN M H' b0 b1 (denyF ns r).2 → Adv [b0, b1] H H' → H' g = some (.ins C dx (gfl b0 b1)) → Q (.int ((denyF ns r).1 : Nat)) H'
def spDeny (C : Addr) : Sp := fun vs H Q _ => DenyP C vs H Q
theorem ok_deny (A : All K mg w) (G : Grw K mg) : FnOk P w K mg base CX0 3 G.fD G.dD ["self", "row"] (spDeny G.C) := by
  refine G.FD.ok sc_Growing_deny (fun vs H Q E h => ?_) (fun cdv Ar outer s H vs Q E hr h => ?_)
  · obtain ⟨M, g, dx, b0, b1, ns, r, rfl, _⟩ := h.ex
    rfl
  · obtain ⟨M, g, dx, b0, b1, ns, r, rfl, hg, gM, B, hl, q⟩ := h.ex
    obtain ⟨aN, mN, tN⟩ := A.C.no
    refine ⟨_, (pss_one (ps_ret (pe_meth (pv 0) G.cl G.mN (ok_node_row A G) (hr.mono (by omega)) G.bN .nil pass0 (pa_cons (pe_tup (pa_cons pe_str (pa_cons (pv 1) (pa_cons (pe_meth (pv 0) G.cl G.mN (ok_node_row A G) (hr.mono (by omega)) G.bN .nil pass0 (pa_cons (pe_glob (v := .ref aN) rfl mN rfl) pa_nil)) pa_nil)))) pa_nil)))), ?_⟩
    have h1 := row_len ns .no
    walk_at "rd"
    refine rd_methA hg (gfl_no _ _ (by decide +kernel) (by decide +kernel)) ?_
    walk_at "rd"
    refine rd_methA hg (gfl_no _ _ (by decide +kernel) (by decide +kernel)) ?_
    walk_at "rd"
    refine ⟨⟨M, g, dx, b0, b1, aN, ns, .no, rfl, hg, gM, B, .inr tN, by omega, fun H1 B1 a1 hg1 => ?_⟩⟩
    walk_at "rd"
    refine ⟨by show 3 ≤ sizeLine; decide, fun p np => ?_⟩
    walk_at "rd"
    have ap : Adv [] H1 (upd H1 p (.tup [.str "if", .int r, .int ((rowF ns .no).1 : Nat)])) := Adv.new np
    exact ⟨⟨M, g, dx, b0, b1, p, _, .bin .imp r (rowF ns .no).1, rfl, ap.same _ _ hg1, gM, B1.same ap, Tp.of upd_same (not_mem_new B1.al np), by omega, fun H2 B2 a2 hg2 => q H2 B2 (a1.trans ((Adv.nil ap).trans a2)) hg2⟩⟩
end
end K60

set_option Elab.async false
set_option linter.all false
set_option maxRecDepth 100000
set_option maxHeartbeats 400000
namespace K60
open PySem PySem.Spec PyProof.Rows L2 LL
local macro_rules | `(tactic| walk_at "ne") => `(tactic| first | assumption | (apply Ne.symm; assumption) | exact ne_of_none (by walk_at "hp") (by assumption) | exact (ne_of_none (by walk_at "hp") (by assumption)).symm)
local macro_rules | `(tactic| walk_at "nm") => `(tactic| first | assumption | exact notin0 | exact notin1 (by walk_at "ne") | exact notin2 (by walk_at "ne") (by walk_at "ne"))
local macro_rules | `(tactic| walk_at "hp") => `(tactic| first | assumption | exact upd_same | (refine Eq.trans (upd_ne ?ne) ?hh; (case hh => walk_at "hp"); (case ne => walk_at "ne")) | (refine Adv.get' (by assumption) ?hh ?nn; (case hh => walk_at "hp"); (case nn => walk_at "nm")))
local macro_rules | `(tactic| walk_at "tp") => `(tactic| first | assumption | exact Tp.adv (by walk_at "tp") (by assumption) | exact Tp.adv (by walk_at "tp") (Adv.nil (by assumption)))
local macro_rules | `(tactic| walk_at "sq") => `(tactic| first | assumption | exact Tp.sq (by assumption) (by walk_at "tp") | exact SqT.of (by walk_at "hp"))
local macro_rules | `(tactic| walk_at "at") => `(tactic| first | exact atI_nat (j := 0) rfl | exact atI_nat (j := 1) rfl | exact atI_nat (j := 2) rfl | exact atI_nat (j := 3) rfl | exact atI_nat (by assumption) | (rw [Int.zero_add]; exact atI_nat (by assumption)))
local macro_rules | `(tactic| walk_at "bb") => `(tactic| first | assumption | decide | exact rfl)
local macro_rules | `(tactic| walk_at "ci") => `(tactic| first | omega | (dsimp only; omega) | (unfold CDiv; omega) | (unfold CMul; omega))
local macro_rules | `(tactic| walk_at "rd1") => `(tactic| first
  | with_reducible refine rd_c ?_
  | ((with_reducible refine' rd_var ?rh ?_); (case rh => exact rfl))
  | with_reducible refine rd_op ?_
  | with_reducible refine rd_seq ?_
  | with_reducible refine rd_asg ?_
  | with_reducible refine rd_gname ?_
  | with_reducible refine rd_ifS ?_
  | with_reducible refine rd_test ?_
  | with_reducible refine rd_tB ?_
  | with_reducible refine rd_blP ?_
  | ((with_reducible refine' iteY ?rh ?_); (case rh => walk_at "bb"))
  | ((with_reducible refine' iteN ?rh ?_); (case rh => walk_at "bb"))
  | with_reducible refine rd_ret ?_
  | with_reducible refine rd_nx ?_
  | ((with_reducible refine' rd_eq ?rh ?_); (case rh => exact rfl))
  | ((with_reducible refine' rd_ne ?rh ?_); (case rh => exact rfl))
  | with_reducible refine rd_add ?_
  | with_reducible refine rd_sub ?_
  | with_reducible refine rd_i0 ?_
  | with_reducible refine rd_and ?_
  | with_reducible refine rd_or ?_
  | with_reducible refine rd_not ?_
  | with_reducible refine rd_andV ?_
  | with_reducible refine rd_orV ?_
  | with_reducible refine rd_notV ?_
  | with_reducible refine rd_ifE ?_
  | with_reducible refine rd_isN ?_
  | with_reducible refine rd_notN ?_
  | with_reducible refine rd_cons ?_
  | with_reducible refine rd_nil ?_
  | with_reducible refine rd_tup ?_
  | with_reducible refine rd_lst ?_
  | with_reducible refine rd_call ?_
  | with_reducible refine rd_cb ?_
  | with_reducible refine rd_meth ?_
  | with_reducible refine rd_callS ?_
  | with_reducible refine rd_make ?_
  | with_reducible refine rd_rfl ?_
  | with_reducible refine rd_fld ?_
  | with_reducible refine rd_drop ?_
  | with_reducible refine rd_gsub ?_
  | with_reducible refine rd_gcons ?_
  | with_reducible refine rd_gnil ?_
  | with_reducible refine rd_par ?_
  | with_reducible refine rd_two ?_
  | with_reducible refine rd_par3 ?_
  | with_reducible refine rd_three ?_
  | with_reducible refine rd_int1 ?_
  | ((with_reducible refine' rd_i ?rh ?_); (case rh => walk_at "ci"))
  | with_reducible refine rd_part ?_
  | with_reducible refine rd_nopart ?_
  | with_reducible refine rd_int ?_
  | with_reducible refine rd_sl ?_
  | with_reducible refine rd_bm ?_
  | with_reducible refine rd_bm0 ?_
  | with_reducible refine rd_dgetT ?_
  | with_reducible refine rd_din ?_
  | with_reducible refine rd_dnin ?_
  | with_reducible refine rd_un ?_
  | ((with_reducible refine' rd_ixL ?rh ?re ?_); (case rh => walk_at "hp"); (case re => walk_at "at"))
  | ((with_reducible refine' rd_ixT ?rh ?re ?_); (case rh => walk_at "sq"); (case re => walk_at "at"))
  | ((with_reducible refine' rd_lenT ?rh ?_); (case rh => walk_at "sq"))
  | ((with_reducible refine' rd_tyL ?rh ?_); (case rh => walk_at "hp"))
  | ((with_reducible refine' rd_len ?rh ?_); (case rh => walk_at "hp"))
  | with_reducible refine rd_u ?_
  | ((with_reducible refine' rd_slL ?rh ?_); (case rh => walk_at "hp"))
  | with_reducible refine rd_for ?_
  | with_reducible refine rd_rng1 ?_
  | with_reducible refine rd_rng2 ?_
  | with_reducible refine rd_ints1 ?_
  | with_reducible refine rd_ints2 ?_
  | with_reducible refine rd_retN ?_)
local macro_rules | `(tactic| walk_at "rd") => `(tactic| repeat walk_at "rd1")
section
variable [KW]
variable {P : Program} {w : World} {K : PySem.W.Frag} {mg : Str → Option Value} {base : Heap}
/-! ### same_word -/
structure SameWP (C : Addr) (vs : List V) (H : Hp) (Q : VK) : Prop where
  ex : ∃ (M : List Addr) (g dx b0 b1 nd d : Addr) (ns : List Nd) (n : Nd) (l : List Nat) (f : Nat → Nat), vs = [.ref g, .ref nd, .ref d] ∧ H g = some (.ins C dx (gfl b0 b1)) ∧ g ∉ M ∧ BkN M H b0 b1 ns ∧ Tp M H nd (n.keys.map kV) ∧ H d = some (.dK (newT l f)) ∧ (∀ p ∈ n.parts, p ∈ l) ∧ n.parts ≠ [] ∧ ns.length ≤ 1000000 ∧
    ∀ H', BkN M H' b0 b1 (rowF ns (n.moved f)).2 → Adv [b0, b1] H H' → H' g = some (.ins C dx (gfl b0 b1)) → Q (.int ((rowF ns (n.moved f)).1 : Nat)) H'
def spSameW (C : Addr) : Sp := fun vs H Q _ => SameWP C vs H Q
theorem ok_same_word (A : All K mg w) (G : Grw K mg) : FnOk P w K mg base CX0 3 A.same_word.f A.same_word.fd ["growing", "node", "new"] (spSameW G.C) := by
  refine A.same_word.F.ok sc_same_word (fun vs H Q E h => ?_) (fun cdv Ar outer s H vs Q E hr h => ?_)
  · obtain ⟨M, g, dx, b0, b1, nd, d, ns, n, l, f, rfl, _⟩ := h.ex
    rfl
  · obtain ⟨M, g, dx, b0, b1, nd, d, ns, n, l, f, rfl, hg, gM, B, ha, hd, hp, hpe, hl, q⟩ := h.ex
    refine ⟨_, (pss_one (ps_ret (pe_meth (pv 0) G.cl G.mN (ok_node_row A G) (hr.mono (by omega)) G.bN .nil pass0 (pa_cons (pe_op op_catT (pe_tup (pa_cons (pe_ix ix_tup (pv 1) pe_int (fun _ _ => rfl)) pa_nil)) (pe_callTy call_tuple_of (by rfl) A.T.tuple (by decide +kernel) (pa_cons (pe_lc (own := [("part", 3)]) (g := gName 3) rfl sc_same_word.nd (pi_tup (pe_slice sl_tup (pv 1) (po_some pe_int) po_none)) (blkOk_by (own := [("part", 3)]) (N := ["growing", "node", "new", "part"]) (sc := defScope s_same_word) (by decide +kernel)) (fun _ _ _ _ _ => pg_name (i := 3) sc_same_word.nd rfl (Or.inl rfl)) (fun _ _ _ _ _ => pts_nil) (fun _ _ _ _ _ => (pe_dget (hu_of hr) (pv 2) (pv 3) (fun _ _ => rfl)))) pa_nil))) pa_nil)))), ?_⟩
    have W := A.W
    have nl : ∀ i, n ≠ .letter i := fun i z => hpe (by rw [z]; rfl)
    obtain ⟨wd, e1, e2, e3⟩ := moved_keys (n := n) f nl
    have ha' := ha
    rw [e1] at ha'
    have hpl : n.parts.length ≤ 2 := by cases n <;> simp [Nd.parts]
    walk_at "rd"
    refine rd_methA hg (gfl_no _ _ (by decide +kernel) (by decide +kernel)) ?_
    walk_at "rd"
    refine ⟨by show 1 ≤ sizeLine; decide, fun p0 n0 => ?_⟩
    have a0 : Adv [] H (upd H p0 (.tup [.str wd])) := Adv.new n0
    refine ⟨_, rfl, 1, rfl, nd, _, rfl, (ha'.adv (Adv.nil a0)).sq W, ?_, fun p1 n1 => ?_⟩
    · intro z
      have z1 := z.1
      rw [show HT.sIx (V.str wd :: nV n.parts).length 0 (some 1) = min 1 (V.str wd :: nV n.parts).length from HT.sIx_nat _ 0 1, List.length_cons] at z1
      omega
    · rw [cut_from1]
      have a1 : Adv [] H (upd (upd H p0 (.tup [.str wd])) p1 (.tup (nV n.parts))) := a0.newT n1
      refine ⟨p1, rfl, ⟨_, SqT.of upd_same⟩, fun D nD => ?_⟩
      refine lc_mapT (K := K) (a := p1) (xs := nV n.parts) (fun i => V.int ((f (n.parts.getD i 0) : Nat) : Int)) nD (SqT.of upd_same) (by unfold nV; rw [List.length_map]; omega) ?_ ?_
      · intro i x H2 acc R hx a2 hD k
        obtain ⟨r, hr1, rfl⟩ : ∃ r, n.parts[i]? = some r ∧ V.int (r : Nat) = x := by
          unfold nV at hx
          rw [List.getElem?_map, Option.map_eq_some_iff] at hx
          exact hx
        have hrl := hp r (List.mem_of_getElem? hr1)
        have hd2 := (a1.trans a2).same _ _ hd
        have er : n.parts.getD i 0 = r := by rw [List.getD_eq_getElem?_getD, hr1]; rfl
        refine ⟨rfl, _, rfl, _, rfl, d, .int (f r : Nat), rfl, new_get hd2 hrl, ?_⟩
        have := k H2 hD a2
        rw [er] at this
        exact this
      · intro H2 a2 hD
        have a02 := a1.trans a2
        have hp0 := ((Adv.new (M := []) (o := .tup (nV n.parts)) n1).trans a2).same _ _ (upd_same (H := H) (a := p0) (o := .tup [.str wd]))
        have el : ((List.range (nV n.parts).length).map fun i => V.int ((f (n.parts.getD i 0) : Nat) : Int)) = nV (n.parts.map f) := by
          unfold nV
          apply List.ext_getElem
          · simp
          · intro i h1 h2
            have hi : i < n.parts.length := by simpa using h1
            simp [hi]
        rw [el] at hD
        refine ⟨D, _, rfl, .inl ⟨SqL.of hD, fun p2 n2 => ?_⟩⟩
        have a3 := a02.newT (o := .tup (nV (n.parts.map f))) n2
        have hp02 := (Adv.new (M := []) (o := .tup (nV (n.parts.map f))) n2).same _ _ hp0
        refine ⟨p0, p2, [.str wd], nV (n.parts.map f), rfl, rfl, SqT.of hp02, SqT.of upd_same, by simp, by unfold nV; simp [sizeLine_eq]; omega, fun z => absurd z (by unfold nV; simp; exact hpe), fun _ p3 n3 => ?_⟩
        have a4 := a3.newT (o := .tup ([.str wd] ++ nV (n.parts.map f))) n3
        exact ⟨⟨M, g, dx, b0, b1, p3, ns, n.moved f, rfl, a4.same _ _ hg, gM, B.same a4, Tp.of (by rw [upd_same, e2]; rfl) (not_mem_new B.al (a3.free (by simp) n3)), hl, fun H' B' a' hg' => q H' B' ((Adv.nil a4).trans a') hg'⟩⟩
end
end K60

set_option Elab.async false
set_option linter.all false
set_option maxRecDepth 100000
set_option maxHeartbeats 400000
namespace K60
open PySem PySem.Spec PyProof.Rows L2 LL
local macro_rules | `(tactic| walk_at "ne") => `(tactic| first | assumption | (apply Ne.symm; assumption) | exact ne_of_none (by walk_at "hp") (by assumption) | exact (ne_of_none (by walk_at "hp") (by assumption)).symm)
local macro_rules | `(tactic| walk_at "nm") => `(tactic| first | assumption | exact notin0 | exact notin1 (by walk_at "ne") | exact notin2 (by walk_at "ne") (by walk_at "ne"))
local macro_rules | `(tactic| walk_at "hp") => `(tactic| first | assumption | exact upd_same | (refine Eq.trans (upd_ne ?ne) ?hh; (case hh => walk_at "hp"); (case ne => walk_at "ne")) | (refine Adv.get' (by assumption) ?hh ?nn; (case hh => walk_at "hp"); (case nn => walk_at "nm")))
local macro_rules | `(tactic| walk_at "tp") => `(tactic| first | assumption | exact Tp.adv (by walk_at "tp") (by assumption) | exact Tp.adv (by walk_at "tp") (Adv.nil (by assumption)))
local macro_rules | `(tactic| walk_at "sq") => `(tactic| first | assumption | exact Tp.sq (by assumption) (by walk_at "tp") | exact SqT.of (by walk_at "hp"))
local macro_rules | `(tactic| walk_at "at") => `(tactic| first | exact atI_nat (j := 0) rfl | exact atI_nat (j := 1) rfl | exact atI_nat (j := 2) rfl | exact atI_nat (j := 3) rfl | exact atI_nat (by assumption) | (rw [Int.zero_add]; exact atI_nat (by assumption)))
local macro_rules | `(tactic| walk_at "bb") => `(tactic| first | assumption | decide | exact rfl)
local macro_rules | `(tactic| walk_at "ci") => `(tactic| first | omega | (dsimp only; omega) | (unfold CDiv; omega) | (unfold CMul; omega))
local macro_rules | `(tactic| walk_at "rd1") => `(tactic| first
  | with_reducible refine rd_c ?_
  | ((with_reducible refine' rd_var ?rh ?_); (case rh => exact rfl))
  | with_reducible refine rd_op ?_
  | with_reducible refine rd_seq ?_
  | with_reducible refine rd_asg ?_
  | with_reducible refine rd_gname ?_
  | with_reducible refine rd_ifS ?_
  | with_reducible refine rd_test ?_
  | with_reducible refine rd_tB ?_
  | with_reducible refine rd_blP ?_
  | ((with_reducible refine' iteY ?rh ?_); (case rh => walk_at "bb"))
  | ((with_reducible refine' iteN ?rh ?_); (case rh => walk_at "bb"))
  | with_reducible refine rd_ret ?_
  | with_reducible refine rd_nx ?_
  | ((with_reducible refine' rd_eq ?rh ?_); (case rh => exact rfl))
  | ((with_reducible refine' rd_ne ?rh ?_); (case rh => exact rfl))
  | with_reducible refine rd_add ?_
  | with_reducible refine rd_sub ?_
  | with_reducible refine rd_i0 ?_
  | with_reducible refine rd_and ?_
  | with_reducible refine rd_or ?_
  | with_reducible refine rd_not ?_
  | with_reducible refine rd_andV ?_
  | with_reducible refine rd_orV ?_
  | with_reducible refine rd_notV ?_
  | with_reducible refine rd_ifE ?_
  | with_reducible refine rd_isN ?_
  | with_reducible refine rd_notN ?_
  | with_reducible refine rd_cons ?_
  | with_reducible refine rd_nil ?_
  | with_reducible refine rd_tup ?_
  | with_reducible refine rd_lst ?_
  | with_reducible refine rd_call ?_
  | with_reducible refine rd_cb ?_
  | with_reducible refine rd_meth ?_
  | with_reducible refine rd_callS ?_
  | with_reducible refine rd_make ?_
  | with_reducible refine rd_rfl ?_
  | with_reducible refine rd_fld ?_
  | with_reducible refine rd_drop ?_
  | with_reducible refine rd_gsub ?_
  | with_reducible refine rd_gcons ?_
  | with_reducible refine rd_gnil ?_
  | with_reducible refine rd_par ?_
  | with_reducible refine rd_two ?_
  | with_reducible refine rd_par3 ?_
  | with_reducible refine rd_three ?_
  | with_reducible refine rd_int1 ?_
  | ((with_reducible refine' rd_i ?rh ?_); (case rh => walk_at "ci"))
  | with_reducible refine rd_part ?_
  | with_reducible refine rd_nopart ?_
  | with_reducible refine rd_int ?_
  | with_reducible refine rd_sl ?_
  | with_reducible refine rd_bm ?_
  | with_reducible refine rd_bm0 ?_
  | with_reducible refine rd_dgetT ?_
  | with_reducible refine rd_din ?_
  | with_reducible refine rd_dnin ?_
  | with_reducible refine rd_un ?_
  | ((with_reducible refine' rd_ixL ?rh ?re ?_); (case rh => walk_at "hp"); (case re => walk_at "at"))
  | ((with_reducible refine' rd_ixT ?rh ?re ?_); (case rh => walk_at "sq"); (case re => walk_at "at"))
  | ((with_reducible refine' rd_lenT ?rh ?_); (case rh => walk_at "sq"))
  | ((with_reducible refine' rd_tyL ?rh ?_); (case rh => walk_at "hp"))
  | ((with_reducible refine' rd_len ?rh ?_); (case rh => walk_at "hp"))
  | with_reducible refine rd_u ?_
  | ((with_reducible refine' rd_slL ?rh ?_); (case rh => walk_at "hp"))
  | with_reducible refine rd_for ?_
  | with_reducible refine rd_rng1 ?_
  | with_reducible refine rd_rng2 ?_
  | with_reducible refine rd_ints1 ?_
  | with_reducible refine rd_ints2 ?_
  | with_reducible refine rd_retN ?_)
local macro_rules | `(tactic| walk_at "rd") => `(tactic| repeat walk_at "rd1")
section
variable [KW]
variable {P : Program} {w : World} {K : PySem.W.Frag} {mg : Str → Option Value} {base : Heap}
structure RdrP (C : Addr) (wd : W3) (vs : List V) (H : Hp) (Q : VK) : Prop where
  ex : ∃ (M : List Addr) (g dx b0 b1 nd d : Addr) (ns : List Nd) (at_ : Nat) (n : Nd) (l : List Nat) (f : Nat → Nat), vs = [.ref g, .int at_, .ref nd, .ref d] ∧ H g = some (.ins C dx (gfl b0 b1)) ∧ g ∉ M ∧ BkN M H b0 b1 ns ∧ Tp M H nd (n.keys.map kV) ∧ d ≠ b0 ∧ d ≠ b1 ∧ H d = some (.dK (newT l f)) ∧ (∀ p ∈ n.parts, p ∈ l) ∧ ns.length ≤ 800000 ∧
    ∀ H', BkN M H' b0 b1 (stepF wd ns at_ n f).2 → Adv [b0, b1] H H' → H' g = some (.ins C dx (gfl b0 b1)) → Q (.int ((stepF wd ns at_ n f).1 : Nat)) H'
def spRdr (C : Addr) (wd : W3) : Sp := fun vs H Q _ => RdrP C wd vs H Q
theorem ok_negative_row (A : All K mg w) (G : Grw K mg) : FnOk P w K mg base CX0 4 A.negative_row.f A.negative_row.fd ["growing", "row", "node", "new"] (spRdr G.C .neg) := by
  refine A.negative_row.F.ok sc_negative_row (fun vs H Q E h => ?_) (fun cdv Ar outer s H vs Q E hr h => ?_)
  · obtain ⟨M, g, dx, b0, b1, nd, d, ns, at_, n, l, f, rfl, _⟩ := h.ex
    rfl
  · obtain ⟨M, g, dx, b0, b1, nd, d, ns, at_, n, l, f, rfl, hg, gM, B, ha, d0, d1, hd, hp, hl, q⟩ := h.ex
    refine ⟨_, (pss_cons (ps_if (pt_cmpR op_eq (pe_ix ix_tup (pv 2) pe_int (fun _ _ => rfl)) pe_str (nomark _))
    (pss_one (ps_ret (pe_meth (pv 0) G.cl G.mD (ok_deny A G) (hr.mono (by omega)) G.bD .nil pass0 (pa_cons (pe_meth (pv 0) G.cl G.mD (ok_deny A G) (hr.mono (by omega)) G.bD .nil pass0 (pa_cons (pv 1) pa_nil)) pa_nil))))
    pss_nil)
  (pss_cons (ps_if (pt_cmpR op_eq (pe_ix ix_tup (pv 2) pe_int (fun _ _ => rfl)) pe_str (nomark _))
    (pss_one (ps_ret (pv 1)))
    pss_nil)
  (pss_cons (ps_if (pt_cmpR op_eq (pe_ix ix_tup (pv 2) pe_int (fun _ _ => rfl)) pe_str (nomark _))
    (pss_cons (ps_par (i := 4) (j := 5) (by rfl) sc_negative_row.nd rfl rfl (by decide) rfl rfl (pa_cons (pe_meth (pv 0) G.cl G.mD (ok_deny A G) (hr.mono (by omega)) G.bD .nil pass0 (pa_cons (pe_dget (hu_of hr) (pv 3) (pe_ix ix_tup (pv 2) pe_int (fun _ _ => rfl)) (fun _ _ => rfl)) pa_nil)) (pa_cons (pe_meth (pv 0) G.cl G.mD (ok_deny A G) (hr.mono (by omega)) G.bD .nil pass0 (pa_cons (pe_dget (hu_of hr) (pv 3) (pe_ix ix_tup (pv 2) pe_int (fun _ _ => rfl)) (fun _ _ => rfl)) pa_nil)) pa_nil)) (by rfl))
  (pss_one (ps_ret (pe_meth (pv 0) G.cl G.mD (ok_deny A G) (hr.mono (by omega)) G.bD .nil pass0 (pa_cons (pe_meth (pv 0) G.cl G.mN (ok_node_row A G) (hr.mono (by omega)) G.bN .nil pass0 (pa_cons (pe_tup (pa_cons pe_str (pa_cons (pv 4) (pa_cons (pv 5) pa_nil)))) pa_nil)) pa_nil)))))
    pss_nil)
  (pss_one (ps_ret (pe_call (ok_same_word A G) (hr.mono (by omega)) rfl A.same_word.m A.same_word.F.kp A.same_word.b .nil pass0 (pa_cons (pv 0) (pa_cons (pv 2) (pa_cons (pv 3) pa_nil))))))))), ?_⟩
    have W := A.W
    have mM : ∀ b ∈ [b0, b1], b ∈ M := by simp [B.m0, B.m1]
    have dd : d ∉ [b0, b1] := by simp [d0, d1]
    have nod : (gfl b0 b1).lookup ("deny" : Str) = none := gfl_no _ _ (by decide +kernel) (by decide +kernel)
    have nor : (gfl b0 b1).lookup ("node_row" : Str) = none := gfl_no _ _ (by decide +kernel) (by decide +kernel)
    have h1 := deny_len ns at_
    cases n with
    | no =>
      walk_at "rd"
      exact q H B (Adv.refl _ _) hg
    | letter i =>
      walk_at "rd"
      refine rd_methA hg nod ?_
      walk_at "rd"
      refine rd_methA hg nod ?_
      walk_at "rd"
      exact ⟨⟨M, g, dx, b0, b1, ns, at_, rfl, hg, gM, B, by omega, fun H1 B1 a1 hg1 => ⟨⟨M, g, dx, b0, b1, _, _, rfl, hg1, gM, B1, by omega, fun H2 B2 a2 hg2 => q H2 B2 (a1.trans a2) hg2⟩⟩⟩⟩
    | bin o j k =>
      have hj := new_get hd (hp j (by simp [Nd.parts]))
      have h2 := deny_len ns (f j)
      have h3 := deny_len (denyF ns (f j)).2 (f k)
      have h4 := row_len (denyF (denyF ns (f j)).2 (f k)).2 (.bin .and (denyF ns (f j)).1 (denyF (denyF ns (f j)).2 (f k)).1)
      by_cases ho : o = .or
      · subst ho
        walk_at "rd"
        refine rd_methA hg nod ?_
        walk_at "rd"
        refine rd_dget hj ?_
        walk_at "rd"
        refine ⟨⟨M, g, dx, b0, b1, ns, f j, rfl, hg, gM, B, by omega, fun H1 B1 a1 hg1 => ?_⟩⟩
        have ha1 := ha.adv (a1.more mM)
        have hk1 := new_get (a1 _ _ dd hd) (hp k (by simp [Nd.parts]))
        walk_at "rd"
        refine rd_methA hg1 nod ?_
        walk_at "rd"
        refine rd_dget hk1 ?_
        walk_at "rd"
        refine ⟨⟨M, g, dx, b0, b1, _, f k, rfl, hg1, gM, B1, by omega, fun H2 B2 a2 hg2 => ?_⟩⟩
        walk_at "rd"
        refine rd_methA hg2 nod ?_
        walk_at "rd"
        refine rd_methA hg2 nor ?_
        walk_at "rd"
        refine ⟨by show 3 ≤ sizeLine; decide, fun p np => ?_⟩
        walk_at "rd"
        have ap : Adv [] H2 (upd H2 p (.tup [.str "and", .int ((denyF ns (f j)).1 : Nat), .int ((denyF (denyF ns (f j)).2 (f k)).1 : Nat)])) := Adv.new np
        refine ⟨⟨M, g, dx, b0, b1, p, _, .bin .and (denyF ns (f j)).1 (denyF (denyF ns (f j)).2 (f k)).1, rfl, ap.same _ _ hg2, gM, B2.same ap, Tp.of upd_same (not_mem_new B2.al np), by omega, fun H3 B3 a3 hg3 => ?_⟩⟩
        exact ⟨⟨M, g, dx, b0, b1, _, _, rfl, hg3, gM, B3, by omega, fun H4 B4 a4 hg4 => q H4 B4 (((a1.trans a2).trans ((Adv.nil ap).trans a3)).trans a4) hg4⟩⟩
      · cases o with
        | or => exact absurd rfl ho
        | and =>
          walk_at "rd"
          exact ⟨⟨M, g, dx, b0, b1, nd, d, ns, .bin .and j k, l, f, rfl, hg, gM, B, ha, hd, hp, by simp [Nd.parts], by omega, q⟩⟩
        | imp =>
          walk_at "rd"
          exact ⟨⟨M, g, dx, b0, b1, nd, d, ns, .bin .imp j k, l, f, rfl, hg, gM, B, ha, hd, hp, by simp [Nd.parts], by omega, q⟩⟩
    | box j =>
      walk_at "rd"
      exact ⟨⟨M, g, dx, b0, b1, nd, d, ns, .box j, l, f, rfl, hg, gM, B, ha, hd, hp, by simp [Nd.parts], by omega, q⟩⟩
theorem ok_boxed_row (A : All K mg w) (G : Grw K mg) : FnOk P w K mg base CX0 4 A.boxed_row.f A.boxed_row.fd ["growing", "row", "node", "new"] (spRdr G.C .box) := by
  refine A.boxed_row.F.ok sc_boxed_row (fun vs H Q E h => ?_) (fun cdv Ar outer s H vs Q E hr h => ?_)
  · obtain ⟨M, g, dx, b0, b1, nd, d, ns, at_, n, l, f, rfl, _⟩ := h.ex
    rfl
  · obtain ⟨M, g, dx, b0, b1, nd, d, ns, at_, n, l, f, rfl, hg, gM, B, ha, d0, d1, hd, hp, hl, q⟩ := h.ex
    refine ⟨_, (pss_cons (ps_if (pt_cmpR op_eq (pe_ix ix_tup (pv 2) pe_int (fun _ _ => rfl)) pe_str (nomark _))
    (pss_one (ps_ret (pe_meth (pv 0) G.cl G.mN (ok_node_row A G) (hr.mono (by omega)) G.bN .nil pass0 (pa_cons (pe_tup (pa_cons pe_str (pa_cons (pv 1) pa_nil))) pa_nil))))
    pss_nil)
  (pss_cons (ps_if (pt_cmpR op_eq (pe_ix ix_tup (pv 2) pe_int (fun _ _ => rfl)) pe_str (nomark _))
    (pss_one (ps_ret (pv 1)))
    pss_nil)
  (pss_cons (ps_set (i := 4) sc_boxed_row.nd rfl (Or.inl rfl) (pe_call (ok_same_word A G) (hr.mono (by omega)) rfl A.same_word.m A.same_word.F.kp A.same_word.b .nil pass0 (pa_cons (pv 0) (pa_cons (pv 2) (pa_cons (pv 3) pa_nil)))))
  (pss_one (ps_ret (pe_ifExp (pt_cmpR op_eq (pe_ix ix_tup (pv 2) pe_int (fun _ _ => rfl)) pe_str (nomark _)) (pe_meth (pv 0) G.cl G.mN (ok_node_row A G) (hr.mono (by omega)) G.bN .nil pass0 (pa_cons (pe_tup (pa_cons pe_str (pa_cons (pv 4) pa_nil))) pa_nil)) (pv 4))))))), ?_⟩
    have W := A.W
    have mM : ∀ b ∈ [b0, b1], b ∈ M := by simp [B.m0, B.m1]
    have nor : (gfl b0 b1).lookup ("node_row" : Str) = none := gfl_no _ _ (by decide +kernel) (by decide +kernel)
    cases n with
    | no =>
      walk_at "rd"
      exact q H B (Adv.refl _ _) hg
    | letter i =>
      walk_at "rd"
      refine rd_methA hg nor ?_
      walk_at "rd"
      refine ⟨by show 2 ≤ sizeLine; decide, fun p np => ?_⟩
      walk_at "rd"
      have ap : Adv [] H (upd H p (.tup [.str "box", .int at_])) := Adv.new np
      exact ⟨⟨M, g, dx, b0, b1, p, ns, .box at_, rfl, ap.same _ _ hg, gM, B.same ap, Tp.of upd_same (not_mem_new B.al np), by omega, fun H3 B3 a3 hg3 => q H3 B3 ((Adv.nil ap).trans a3) hg3⟩⟩
    | bin o j k =>
      have h5 := row_len ns (.bin o (f j) (f k))
      cases o with
      | imp =>
        walk_at "rd"
        refine ⟨⟨M, g, dx, b0, b1, nd, d, ns, .bin .imp j k, l, f, rfl, hg, gM, B, ha, hd, hp, by simp [Nd.parts], by omega, fun H1 B1 a1 hg1 => ?_⟩⟩
        have ha1 := ha.adv (a1.more mM)
        walk_at "rd"
        refine rd_methA hg1 nor ?_
        walk_at "rd"
        refine ⟨by show 2 ≤ sizeLine; decide, fun p np => ?_⟩
        walk_at "rd"
        have ap : Adv [] H1 (upd H1 p (.tup [.str "box", .int ((rowF ns (.bin .imp (f j) (f k))).1 : Nat)])) := Adv.new np
        exact ⟨⟨M, g, dx, b0, b1, p, _, .box (rowF ns (.bin .imp (f j) (f k))).1, rfl, ap.same _ _ hg1, gM, B1.same ap, Tp.of upd_same (not_mem_new B1.al np), by show (rowF ns (.bin .imp (f j) (f k))).2.length ≤ _; omega, fun H3 B3 a3 hg3 => q H3 B3 (a1.trans ((Adv.nil ap).trans a3)) hg3⟩⟩
      | and =>
        walk_at "rd"
        refine ⟨⟨M, g, dx, b0, b1, nd, d, ns, .bin .and j k, l, f, rfl, hg, gM, B, ha, hd, hp, by simp [Nd.parts], by omega, fun H1 B1 a1 hg1 => ?_⟩⟩
        have ha1 := ha.adv (a1.more mM)
        walk_at "rd"
        exact q H1 B1 a1 hg1
      | or =>
        walk_at "rd"
        refine ⟨⟨M, g, dx, b0, b1, nd, d, ns, .bin .or j k, l, f, rfl, hg, gM, B, ha, hd, hp, by simp [Nd.parts], by omega, fun H1 B1 a1 hg1 => ?_⟩⟩
        have ha1 := ha.adv (a1.more mM)
        walk_at "rd"
        exact q H1 B1 a1 hg1
    | box j =>
      walk_at "rd"
      refine ⟨⟨M, g, dx, b0, b1, nd, d, ns, .box j, l, f, rfl, hg, gM, B, ha, hd, hp, by simp [Nd.parts], by omega, fun H1 B1 a1 hg1 => ?_⟩⟩
      have ha1 := ha.adv (a1.more mM)
      walk_at "rd"
      exact q H1 B1 a1 hg1
theorem in_ln (x : Str) : inV (.str x) [.str "letter", .str "no"] = (decide (x = "letter") || decide (x = "no")) := (inV_strs x ["letter", "no"]).trans (by simp)
theorem ok_doubled_row (A : All K mg w) (G : Grw K mg) : FnOk P w K mg base CX0 4 A.doubled_row.f A.doubled_row.fd ["growing", "row", "node", "new"] (spRdr G.C .dou) := by
  refine A.doubled_row.F.ok sc_doubled_row (fun vs H Q E h => ?_) (fun cdv Ar outer s H vs Q E hr h => ?_)
  · obtain ⟨M, g, dx, b0, b1, nd, d, ns, at_, n, l, f, rfl, _⟩ := h.ex
    rfl
  · obtain ⟨M, g, dx, b0, b1, nd, d, ns, at_, n, l, f, rfl, hg, gM, B, ha, d0, d1, hd, hp, hl, q⟩ := h.ex
    refine ⟨_, (pss_cons (ps_if (pt_cmpR op_in_seq (pe_ix ix_tup (pv 2) pe_int (fun _ _ => rfl)) (pe_tup (pa_cons pe_str (pa_cons pe_str pa_nil))) rfl)
    (pss_one (ps_ret (pv 1)))
    pss_nil)
  (pss_cons (ps_set (i := 4) sc_doubled_row.nd rfl (Or.inl rfl) (pe_call (ok_same_word A G) (hr.mono (by omega)) rfl A.same_word.m A.same_word.F.kp A.same_word.b .nil pass0 (pa_cons (pv 0) (pa_cons (pv 2) (pa_cons (pv 3) pa_nil)))))
  (pss_one (ps_ret (pe_ifExp (pt_cmpR op_eq (pe_ix ix_tup (pv 2) pe_int (fun _ _ => rfl)) pe_str (nomark _)) (pe_meth (pv 0) G.cl G.mN (ok_node_row A G) (hr.mono (by omega)) G.bN .nil pass0 (pa_cons (pe_tup (pa_cons pe_str (pa_cons (pe_dget (hu_of hr) (pv 3) (pe_ix ix_tup (pv 2) pe_int (fun _ _ => rfl)) (fun _ _ => rfl)) (pa_cons (pv 4) pa_nil)))) pa_nil)) (pv 4)))))), ?_⟩
    have W := A.W
    have mM : ∀ b ∈ [b0, b1], b ∈ M := by simp [B.m0, B.m1]
    have dd : d ∉ [b0, b1] := by simp [d0, d1]
    have nor : (gfl b0 b1).lookup ("node_row" : Str) = none := gfl_no _ _ (by decide +kernel) (by decide +kernel)
    have st : ∀ {p : Addr}, H p = none → Adv [] H (upd H p (.tup [.str "letter", .str "no"])) := fun h => Adv.new h
    cases n with
    | no =>
      walk_at "rd"
      refine ⟨by show 2 ≤ sizeLine; decide, fun p np => ?_⟩
      refine ⟨p, _, rfl, .inr (SqT.of upd_same), rfl, rfl, _, rfl, iteY (by decide) ?_⟩
      walk_at "rd"
      exact q _ (B.same (st np)) (Adv.nil (st np)) ((st np).same _ _ hg)
    | letter i =>
      walk_at "rd"
      refine ⟨by show 2 ≤ sizeLine; decide, fun p np => ?_⟩
      refine ⟨p, _, rfl, .inr (SqT.of upd_same), rfl, rfl, _, rfl, iteY (by decide) ?_⟩
      walk_at "rd"
      exact q _ (B.same (st np)) (Adv.nil (st np)) ((st np).same _ _ hg)
    | bin o j k =>
      walk_at "rd"
      refine ⟨by show 2 ≤ sizeLine; decide, fun p np => ?_⟩
      have a0 := st np
      refine ⟨p, _, rfl, .inr (SqT.of upd_same), by cases o <;> rfl, rfl, _, rfl, iteN (by cases o <;> decide) ?_⟩
      walk_at "rd"
      refine ⟨⟨M, g, dx, b0, b1, nd, d, ns, .bin o j k, l, f, rfl, a0.same _ _ hg, gM, B.same a0, ha.adv (Adv.nil a0), a0.same _ _ hd, hp, by simp [Nd.parts], by omega, fun H1 B1 a1 hg1 => ?_⟩⟩
      have ha1 := (ha.adv (Adv.nil a0)).adv (a1.more mM)
      cases o <;>
      · walk_at "rd"
        exact q H1 B1 ((Adv.nil a0).trans a1) hg1
    | box j =>
      have h5 := row_len ns (.box (f j))
      walk_at "rd"
      refine ⟨by show 2 ≤ sizeLine; decide, fun p np => ?_⟩
      have a0 := st np
      refine ⟨p, _, rfl, .inr (SqT.of upd_same), rfl, rfl, _, rfl, iteN (by decide) ?_⟩
      walk_at "rd"
      refine ⟨⟨M, g, dx, b0, b1, nd, d, ns, .box j, l, f, rfl, a0.same _ _ hg, gM, B.same a0, ha.adv (Adv.nil a0), a0.same _ _ hd, hp, by simp [Nd.parts], by omega, fun H1 B1 a1 hg1 => ?_⟩⟩
      have ha1 := (ha.adv (Adv.nil a0)).adv (a1.more mM)
      have hj1 := new_get (a1 _ _ dd (a0.same _ _ hd)) (hp j (by simp [Nd.parts]))
      walk_at "rd"
      refine rd_methA hg1 nor ?_
      walk_at "rd"
      refine rd_dget hj1 ?_
      walk_at "rd"
      refine ⟨by show 3 ≤ sizeLine; decide, fun p2 np2 => ?_⟩
      walk_at "rd"
      have ap : Adv [] H1 (upd H1 p2 (.tup [.str "and", .int (f j : Nat), .int ((rowF ns (.box (f j))).1 : Nat)])) := Adv.new np2
      exact ⟨⟨M, g, dx, b0, b1, p2, _, .bin .and (f j) (rowF ns (.box (f j))).1, rfl, ap.same _ _ hg1, gM, B1.same ap, Tp.of upd_same (not_mem_new B1.al np2), by show (rowF ns (.box (f j))).2.length ≤ _; omega, fun H3 B3 a3 hg3 => q H3 B3 ((Adv.nil a0).trans (a1.trans ((Adv.nil ap).trans a3))) hg3⟩⟩
end
end K60

set_option Elab.async false
set_option linter.all false
set_option maxRecDepth 100000
set_option maxHeartbeats 400000
namespace K60
open PySem PySem.Spec PyProof.Rows L2 LL
local macro_rules | `(tactic| walk_at "ne") => `(tactic| first | assumption | (apply Ne.symm; assumption) | exact ne_of_none (by walk_at "hp") (by assumption) | exact (ne_of_none (by walk_at "hp") (by assumption)).symm)
local macro_rules | `(tactic| walk_at "nm") => `(tactic| first | assumption | exact notin0 | exact notin1 (by walk_at "ne") | exact notin2 (by walk_at "ne") (by walk_at "ne"))
local macro_rules | `(tactic| walk_at "hp") => `(tactic| first | assumption | exact upd_same | (refine Eq.trans (upd_ne ?ne) ?hh; (case hh => walk_at "hp"); (case ne => walk_at "ne")) | (refine Adv.get' (by assumption) ?hh ?nn; (case hh => walk_at "hp"); (case nn => walk_at "nm")))
local macro_rules | `(tactic| walk_at "tp") => `(tactic| first | assumption | exact Tp.adv (by walk_at "tp") (by assumption) | exact Tp.adv (by walk_at "tp") (Adv.nil (by assumption)))
local macro_rules | `(tactic| walk_at "sq") => `(tactic| first | assumption | exact Tp.sq (by assumption) (by walk_at "tp") | exact SqT.of (by walk_at "hp"))
local macro_rules | `(tactic| walk_at "at") => `(tactic| first | exact atI_nat (j := 0) rfl | exact atI_nat (j := 1) rfl | exact atI_nat (j := 2) rfl | exact atI_nat (j := 3) rfl | exact atI_nat (by assumption) | (rw [Int.zero_add]; exact atI_nat (by assumption)))
local macro_rules | `(tactic| walk_at "bb") => `(tactic| first | assumption | decide | exact rfl)
local macro_rules | `(tactic| walk_at "ci") => `(tactic| first | omega | (dsimp only; omega) | (unfold CDiv; omega) | (unfold CMul; omega))
local macro_rules | `(tactic| walk_at "rd1") => `(tactic| first
  | with_reducible refine rd_c ?_
  | ((with_reducible refine' rd_var ?rh ?_); (case rh => exact rfl))
  | with_reducible refine rd_op ?_
  | with_reducible refine rd_seq ?_
  | with_reducible refine rd_asg ?_
  | with_reducible refine rd_gname ?_
  | with_reducible refine rd_ifS ?_
  | with_reducible refine rd_test ?_
  | with_reducible refine rd_tB ?_
  | with_reducible refine rd_blP ?_
  | ((with_reducible refine' iteY ?rh ?_); (case rh => walk_at "bb"))
  | ((with_reducible refine' iteN ?rh ?_); (case rh => walk_at "bb"))
  | with_reducible refine rd_ret ?_
  | with_reducible refine rd_nx ?_
  | ((with_reducible refine' rd_eq ?rh ?_); (case rh => exact rfl))
  | ((with_reducible refine' rd_ne ?rh ?_); (case rh => exact rfl))
  | with_reducible refine rd_add ?_
  | with_reducible refine rd_sub ?_
  | with_reducible refine rd_i0 ?_
  | with_reducible refine rd_and ?_
  | with_reducible refine rd_or ?_
  | with_reducible refine rd_not ?_
  | with_reducible refine rd_andV ?_
  | with_reducible refine rd_orV ?_
  | with_reducible refine rd_notV ?_
  | with_reducible refine rd_ifE ?_
  | with_reducible refine rd_isN ?_
  | with_reducible refine rd_notN ?_
  | with_reducible refine rd_cons ?_
  | with_reducible refine rd_nil ?_
  | with_reducible refine rd_tup ?_
  | with_reducible refine rd_lst ?_
  | with_reducible refine rd_call ?_
  | with_reducible refine rd_cb ?_
  | with_reducible refine rd_meth ?_
  | with_reducible refine rd_callS ?_
  | with_reducible refine rd_make ?_
  | with_reducible refine rd_rfl ?_
  | with_reducible refine rd_fld ?_
  | with_reducible refine rd_drop ?_
  | with_reducible refine rd_gsub ?_
  | with_reducible refine rd_gcons ?_
  | with_reducible refine rd_gnil ?_
  | with_reducible refine rd_par ?_
  | with_reducible refine rd_two ?_
  | with_reducible refine rd_par3 ?_
  | with_reducible refine rd_three ?_
  | with_reducible refine rd_int1 ?_
  | ((with_reducible refine' rd_i ?rh ?_); (case rh => walk_at "ci"))
  | with_reducible refine rd_part ?_
  | with_reducible refine rd_nopart ?_
  | with_reducible refine rd_int ?_
  | with_reducible refine rd_sl ?_
  | with_reducible refine rd_bm ?_
  | with_reducible refine rd_bm0 ?_
  | with_reducible refine rd_dgetT ?_
  | with_reducible refine rd_din ?_
  | with_reducible refine rd_dnin ?_
  | with_reducible refine rd_un ?_
  | ((with_reducible refine' rd_ixL ?rh ?re ?_); (case rh => walk_at "hp"); (case re => walk_at "at"))
  | ((with_reducible refine' rd_ixT ?rh ?re ?_); (case rh => walk_at "sq"); (case re => walk_at "at"))
  | ((with_reducible refine' rd_lenT ?rh ?_); (case rh => walk_at "sq"))
  | ((with_reducible refine' rd_tyL ?rh ?_); (case rh => walk_at "hp"))
  | ((with_reducible refine' rd_len ?rh ?_); (case rh => walk_at "hp"))
  | with_reducible refine rd_u ?_
  | ((with_reducible refine' rd_slL ?rh ?_); (case rh => walk_at "hp"))
  | with_reducible refine rd_for ?_
  | with_reducible refine rd_rng1 ?_
  | with_reducible refine rd_rng2 ?_
  | with_reducible refine rd_ints1 ?_
  | with_reducible refine rd_ints2 ?_
  | with_reducible refine rd_retN ?_)
local macro_rules | `(tactic| walk_at "rd") => `(tactic| repeat walk_at "rd1")
section
variable [KW]
variable {P : Program} {w : World} {K : PySem.W.Frag} {mg : Str → Option Value} {base : Heap}
def rdrF (A : All K mg w) : W3 → Addr
  | .neg => A.negative_row.f
  | .box => A.boxed_row.f
  | .dou => A.doubled_row.f
/-- the written dict of the readers -/
structure Rds (A : All K mg w) : Prop where
  ex : ∃ a, mg "READERS" = some (.ref a) ∧ ∀ wd : W3, KDct K w a wd.str (.ref (rdrF A wd))
def rdS (A : All K mg w) (G : Grw K mg) (wd : W3) : Addr → Option Sp := fun f => if f = rdrF A wd then some (spRdr G.C wd) else none
theorem rd_held (A : All K mg w) (G : Grw K mg) (wd : W3) : ∀ f sp, rdS A G wd f = some sp → Held P w K mg base 4 f sp := fun f sp h => by
  unfold rdS at h
  split at h
  · rename_i e
    cases h
    subst e
    cases wd with
    | neg => exact ⟨⟨_, _, ok_negative_row A G, A.negative_row.F.kp, A.negative_row.b⟩⟩
    | box => exact ⟨⟨_, _, ok_boxed_row A G, A.boxed_row.F.kp, A.boxed_row.b⟩⟩
    | dou => exact ⟨⟨_, _, ok_doubled_row A G, A.doubled_row.F.kp, A.doubled_row.b⟩⟩
  · cases h
/-! ### grown -/
structure GrownP (C : Addr) (vs : List V) (H : Hp) (Q : VK) : Prop where
  ex : ∃ (M : List Addr) (g dx b0 b1 rw_ : Addr) (ns : List Nd) (rows : List Nat) (boxed : Bool) (wd : W3), vs = [.ref g, .ref rw_, .str wd.str] ∧ H g = some (.ins C dx (gfl b0 b1)) ∧ g ∉ M ∧ BkN M H b0 b1 ns ∧ okSheet boxed ns ∧ ns.length ≤ 80000 ∧
    H rw_ = some (.lst (nV rows)) ∧ (∀ r ∈ rows, r < ns.length) ∧ rows.length ≤ 80000 ∧
    ∀ d H', H d = none → H' d = some (.dK (newT (belowF ns rows) (readF wd ns (belowF ns rows) ns (fun _ => 0)).2)) → BkN M H' b0 b1 (readF wd ns (belowF ns rows) ns (fun _ => 0)).1 → Adv [b0, b1] H H' → H' g = some (.ins C dx (gfl b0 b1)) → Q (.ref d) H'
def spGrown (C : Addr) : Sp := fun vs H Q _ => GrownP C vs H Q
theorem ok_grown (A : All K mg w) (G : Grw K mg) (R : Rds A) : FnOk P w K mg base CX0 5 A.grown.f A.grown.fd ["growing", "rows", "word"] (spGrown G.C) := by
  refine A.grown.F.ok sc_grown (fun vs H Q E h => ?_) (fun cdv Ar outer s H vs Q E hr h => ?_)
  · obtain ⟨M, g, dx, b0, b1, rw_, ns, rows, boxed, wd, rfl, _⟩ := h.ex
    rfl
  · obtain ⟨M, g, dx, b0, b1, rw_, ns, rows, boxed, wd, rfl, hg, gM, B, ok, hl, hrw, hrows, hl2, q⟩ := h.ex
    obtain ⟨aR, mR, tR⟩ := R.ex
    refine ⟨_, (pss_cons (ps_set (i := 3) sc_grown.nd rfl (Or.inl rfl) (pe_ix ix_kdict (pe_glob (v := .ref aR) rfl mR rfl) (pv 2) (fun _ _ => rfl)))
  (pss_cons (ps_set (i := 4) sc_grown.nd rfl (Or.inl rfl) (pe_callTy call_list_of (by rfl) A.T.list (by decide +kernel) (pa_cons (pe_fld (pv 0) rfl) pa_nil)))
  (pss_cons (ps_set (i := 5) sc_grown.nd rfl (Or.inl rfl) pe_dnewK)
  (pss_cons (ps_for PassesOwn.never rfl (pi_list (pe_call (ok_rows_below A) (hr.mono (by omega)) rfl A.rows_below.m A.rows_below.F.kp A.rows_below.b .nil pass0 (pa_cons (pv 4) (pa_cons (pv 1) pa_nil)))) (pg_name (i := 6) sc_grown.nd rfl (Or.inl rfl))
    (pss_one (ps_dput (hu_of hr) (pv 5) (pv 6) (pe_callA (i := 3) (S := rdS A G wd) (rd_held A G wd) (hr.mono (by omega)) rfl (.inl rfl) (pa_cons (pv 0) (pa_cons (pv 6) (pa_cons (pe_ix ix_list (pv 4) (pv 6) (fun _ _ => rfl)) (pa_cons (pv 5) pa_nil))))) rfl)))
  (pss_one (ps_ret (pv 5))))))), ?_⟩
    obtain ⟨rs, r0, rd⟩ := B.rows
    have mM : ∀ b ∈ [b0, b1], b ∈ M := by simp [B.m0, B.m1]
    have gB := notin_bk B gM
    walk_at "rd"
    refine ⟨aR, wd.str, _, rfl, rfl, tR wd, ?_⟩
    walk_at "rd"
    refine rd_fldA hg G.cl G.nS (gfl_s _ _) ?_
    walk_at "rd"
    intro sl nsl
    walk_at "rd"
    intro d nd
    have as_ : Adv [] H (upd H sl (.lst rs)) := Adv.new nsl
    have ad : Adv [] H (upd (upd H sl (.lst rs)) d (.dK [])) := as_.newT nd
    have nds : sl ≠ d := fun z => by rw [← z, upd_same] at nd; cases nd
    have nd0 : H d = none := by rw [upd_ne nds.symm] at nd; exact nd
    have hsl : (upd (upd H sl (.lst rs)) d (.dK [])) sl = some (.lst rs) := by rw [upd_ne nds, upd_same]
    have rd1 : IsDs M (upd (upd H sl (.lst rs)) d (.dK [])) (ns.map Nd.data) rs := rd.adv (Adv.nil ad)
    have B1 := B.same ad
    walk_at "rd"
    refine ⟨_, rfl, _, rfl, sl, rw_, ns, rs, rows, boxed, rfl, hsl, rd1.less (by simp), ad.same _ _ hrw, hrows, ok, hl, hl2, fun L H2 nL hL a2 => ?_⟩
    refine ⟨L, rfl, ⟨_, SqL.of hL⟩, ?_⟩
    have hd2 := a2.same _ _ (show (upd (upd H sl (.lst rs)) d (.dK [])) d = some (.dK []) from upd_same)
    have nLd : L ≠ d := fun z => by rw [z, upd_same] at nL; cases nL
    have nLs : L ≠ sl := fun z => by rw [z, hsl] at nL; cases nL
    have aH2 := ad.trans a2
    have nL0 : H L = none := ad.free (by simp) nL
    have d0 : d ≠ b0 := fun z => B.al b0 B.m0 (by rw [← z]; exact nd0)
    have d1 : d ≠ b1 := fun z => B.al b1 B.m1 (by rw [← z]; exact nd0)
    have L0 : L ≠ b0 := fun z => B.al b0 B.m0 (by rw [← z]; exact nL0)
    have L1 : L ≠ b1 := fun z => B.al b1 B.m1 (by rw [← z]; exact nL0)
    have s0 : sl ≠ b0 := fun z => B.al b0 B.m0 (by rw [← z]; exact nsl)
    have s1 : sl ≠ b1 := fun z => B.al b1 B.m1 (by rw [← z]; exact nsl)
    have gd : g ≠ d := ne_of_none hg nd0
    have dM : d ∉ M := fun z => B.al d z nd0
    refine for_list (a := L) (xs := nV (belowF ns rows)) (fun i σ' H' => ∃ x6, σ' = [some (.ref g), some (.ref rw_), some (.str wd.str), some (.ref (rdrF A wd)), some (.ref sl), some (.ref d), x6] ∧ H' L = some (.lst (nV (belowF ns rows))) ∧ H' sl = some (.lst rs) ∧ H' g = some (.ins G.C dx (gfl b0 b1)) ∧
        H' d = some (.dK (newT ((belowF ns rows).take i) (readF wd ns ((belowF ns rows).take i) ns (fun _ => 0)).2)) ∧ BkN (d :: M) H' b0 b1 (readF wd ns ((belowF ns rows).take i) ns (fun _ => 0)).1 ∧ Adv [b0, b1] H H')
      ⟨_, rfl, hL, a2.same _ _ hsl, aH2.same _ _ hg, hd2, ((B.same as_).fresh nd).same a2, Adv.nil aH2⟩ ?_ ?_ ?_
    · rintro i σ' H' hi ⟨x4, rfl, hL', _⟩
      exact SqL.of hL'
    · rintro i x σ' H' hx ⟨x4, rfl, hL', hsl', hg', hd', B', a'⟩
      obtain ⟨r, hr1, rfl⟩ : ∃ r, (belowF ns rows)[i]? = some r ∧ V.int (r : Nat) = x := by
        unfold nV at hx
        rw [List.getElem?_map, Option.map_eq_some_iff] at hx
        exact hx
      have hrm := List.mem_of_getElem? hr1
      have hrn := (below_mem.mp hrm).1
      have hnr : ns[r]? = some ns[r] := List.getElem?_eq_getElem hrn
      have hlen := readF_len wd ns ((belowF ns rows).take i) ns (fun _ => 0)
      have hbl : (belowF ns rows).length ≤ ns.length := by
        have := List.length_filter_le (marked ns rows) (List.range ns.length)
        rw [List.length_range] at this
        exact this
      have htl : ((belowF ns rows).take i).length ≤ ns.length := by rw [List.length_take]; omega
      have hpt : ∀ p ∈ (ns[r]).parts, p ∈ (belowF ns rows).take i := fun p hp => by
        obtain ⟨h1, h2⟩ := below_parts ok hrm hnr p hp
        exact below_take hr1 h1 h2
      obtain ⟨v, hv, isv⟩ := rd.get (i := r) (d := (ns[r]).data) (by rw [List.getElem?_map, hnr]; rfl)
      obtain ⟨na, rfl, hna⟩ := nd_is isv
      have hna' : Tp (d :: M) H' na ((ns[r]).keys.map kV) := (hna.fresh nd0).adv (a'.more (by simp [B.m0, B.m1]))
      walk_at "rd"
      refine ⟨rdrF A wd, spRdr G.C wd, rfl, if_pos rfl, ?_⟩
      walk_at "rd"
      refine ⟨⟨d :: M, g, dx, b0, b1, na, d, _, r, ns[r], _, _, rfl, hg', by simp [gd, gM], B', hna', d0, d1, hd', hpt, by omega, fun H3 B3 a3 hg3 => ?_⟩⟩
      have hd3 := a3 _ _ (by simp [d0, d1]) hd'
      refine ⟨_, rfl, _, rfl, d, _, rfl, DPut.k (k := (Sum.inl (r : Int) : Key)) hd3 (by unfold newT; rw [List.length_map, sizeLine_eq]; omega), ?_⟩
      rw [new_put (below_notin hr1)]
      have e1 : (belowF ns rows).take (i + 1) = (belowF ns rows).take i ++ [r] := by rw [List.take_succ, hr1]; rfl
      rw [e1, readF_snoc, hnr]
      refine ⟨_, rfl, by rw [upd_ne nLd]; exact a3 _ _ (by simp [L0, L1]) hL', by rw [upd_ne nds]; exact a3 _ _ (by simp [s0, s1]) hsl', by rw [upd_ne gd]; exact hg3, upd_same, ?_, (a'.trans a3).mut nd0⟩
      exact B3.adv (N := [d]) (Adv.set (by simp)) (by simpa using d0.symm) (by simpa using d1.symm) (by simp) (fun b hb => by rw [List.mem_singleton.mp hb, upd_same]; simp)
    · rintro σ' H' ⟨x4, rfl, hL', hsl', hg', hd', B', a'⟩
      have et : (belowF ns rows).take (nV (belowF ns rows)).length = belowF ns rows := by unfold nV; rw [List.length_map, List.take_length]
      rw [et] at hd' B'
      walk_at "rd"
      exact q d H' nd0 hd' (B'.less (by simp +contextual) B.m0 B.m1) a' hg'
end
end K60

set_option Elab.async false
set_option linter.all false
set_option maxRecDepth 100000
set_option maxHeartbeats 400000
namespace K60
open PySem PySem.Spec PyProof.Rows L2 LL
def allNames : List Str := ["BadLogic", "BadSheet", "BadClaim", "BadModel", "BadPaper", "BadTerm", "BadEdit", "BadValue", "BadText", "BadSize", "TooMany", "NotBoxed", "NotProved", "NotThere", "NothingToUndo", "NothingToRedo"]
/-- the classes of errors -/
structure Exs (K : PySem.W.Frag) (mg : Str → Option Value) where
  CE : Addr
  cA : Str → Addr
  mC : mg "CourtError" = some (.ref CE)
  mA : ∀ n ∈ allNames, mg n = some (.ref (cA n))
/-- what kind of error the class of this name is -/
structure NF {K : PySem.W.Frag} {mg : Str → Option Value} (Z : Exs K mg) (nm : Str) : Prop where
  eD : ExcC K (Z.cA nm)
  k : ∀ n ∈ allNames, PySem.W.kitOne K (.ref (Z.cA nm)) (.ref (Z.cA n)) = some (decide (n = nm))
  kC : PySem.W.kitOne K (.ref (Z.cA nm)) (.ref Z.CE) = some true
  kV : PySem.W.kitOne K (.ref (Z.cA nm)) (.type "ValueError") = some true
  hC : PySem.W.exmOne K (.ref (Z.cA nm)) (.ref Z.CE) = some true
def allBs (nm : Str) : List V := allNames.map fun n => V.bl (decide (n = nm))

abbrev s_BadSheet : Stmt := inClass (top 3) 0
theorem sc_BadSheet : FnScope ["self", "row"] ["self", "row"] (defScope s_BadSheet) := ⟨rfl, rfl, rfl, by decide +kernel, rfl, by decide +kernel, by decide +kernel⟩
structure Er_BadSheet {K : PySem.W.Frag} {mg : Str → Option Value} (Z : Exs K mg) where
  O : OexC K (Z.cA "BadSheet")
  f : Addr
  fd : FuncData
  I : PySem.W.findIn K (.ref (Z.cA "BadSheet")) "__init__" = some (some (.ref f))
  T : PySem.W.typeIn K (.ref f) = some (.type "function")
  F : Fun K "__init__" "BadSheet.__init__" s_BadSheet f fd
  b : Binds K fd ["self", "row"] []
  X : XfC K (Z.cA "BadSheet")
  A_ : PySem.W.findIn K (.ref (Z.cA "BadSheet")) "row" = some none
  N : NF Z "BadSheet"
abbrev s_BadValue : Stmt := inClass (top 9) 0
theorem sc_BadValue : FnScope ["self", "name"] ["self", "name"] (defScope s_BadValue) := ⟨rfl, rfl, rfl, by decide +kernel, rfl, by decide +kernel, by decide +kernel⟩
structure Er_BadValue {K : PySem.W.Frag} {mg : Str → Option Value} (Z : Exs K mg) where
  O : OexC K (Z.cA "BadValue")
  f : Addr
  fd : FuncData
  I : PySem.W.findIn K (.ref (Z.cA "BadValue")) "__init__" = some (some (.ref f))
  T : PySem.W.typeIn K (.ref f) = some (.type "function")
  F : Fun K "__init__" "BadValue.__init__" s_BadValue f fd
  b : Binds K fd ["self", "name"] []
  X : XfC K (Z.cA "BadValue")
  A_ : PySem.W.findIn K (.ref (Z.cA "BadValue")) "name" = some none
  N : NF Z "BadValue"
abbrev s_BadClaim : Stmt := inClass (top 4) 0
theorem sc_BadClaim : FnScope ["self", "word"] ["self", "word"] (defScope s_BadClaim) := ⟨rfl, rfl, rfl, by decide +kernel, rfl, by decide +kernel, by decide +kernel⟩
structure Er_BadClaim {K : PySem.W.Frag} {mg : Str → Option Value} (Z : Exs K mg) where
  O : OexC K (Z.cA "BadClaim")
  f : Addr
  fd : FuncData
  I : PySem.W.findIn K (.ref (Z.cA "BadClaim")) "__init__" = some (some (.ref f))
  T : PySem.W.typeIn K (.ref f) = some (.type "function")
  F : Fun K "__init__" "BadClaim.__init__" s_BadClaim f fd
  b : Binds K fd ["self", "word"] []
  X : XfC K (Z.cA "BadClaim")
  A_ : PySem.W.findIn K (.ref (Z.cA "BadClaim")) "word" = some none
  N : NF Z "BadClaim"
section
variable [KW]
variable {P : Program} {w : World} {K : PySem.W.Frag} {mg : Str → Option Value} {base : Heap}
/-! ### __init__ -/
def spInit (S : Addr) (fl : Str) : Sp := fun vs H Q _ => ∃ (a : Addr) (y : V), vs = [.ref a, y] ∧ H a = some (exo a S none) ∧ ∀ dx, H dx = none → dx ≠ a → Q .non (upd (upd H dx (exd dx [(fl, y)])) a (exo a S (some dx)))
theorem ok_BadSheet {Z : Exs K mg} (Z1 : Er_BadSheet Z) : FnOk P w K mg base CX0 1 Z1.f Z1.fd ["self", "row"] (spInit (Z.cA "BadSheet") "row") := by
  refine Z1.F.ok sc_BadSheet (fun vs H Q E h => ?_) (fun cdv Ar outer s H vs Q E hr h => ?_)
  · obtain ⟨a, y, rfl, _⟩ := h
    rfl
  · obtain ⟨a, y, rfl, ha, q⟩ := h
    refine ⟨_, pss_one (ps_ost (pv 0) (pv 1)), ?_⟩
    exact ⟨_, rfl, _, rfl, a, Z.cA "BadSheet", rfl, Z1.O, Z1.A_, .inl ⟨ha, fun dx n1 n2 => q dx n1 n2⟩⟩
theorem ok_BadValue {Z : Exs K mg} (Z1 : Er_BadValue Z) : FnOk P w K mg base CX0 1 Z1.f Z1.fd ["self", "name"] (spInit (Z.cA "BadValue") "name") := by
  refine Z1.F.ok sc_BadValue (fun vs H Q E h => ?_) (fun cdv Ar outer s H vs Q E hr h => ?_)
  · obtain ⟨a, y, rfl, _⟩ := h
    rfl
  · obtain ⟨a, y, rfl, ha, q⟩ := h
    refine ⟨_, pss_one (ps_ost (pv 0) (pv 1)), ?_⟩
    exact ⟨_, rfl, _, rfl, a, Z.cA "BadValue", rfl, Z1.O, Z1.A_, .inl ⟨ha, fun dx n1 n2 => q dx n1 n2⟩⟩
theorem ok_BadClaim {Z : Exs K mg} (Z1 : Er_BadClaim Z) : FnOk P w K mg base CX0 1 Z1.f Z1.fd ["self", "word"] (spInit (Z.cA "BadClaim") "word") := by
  refine Z1.F.ok sc_BadClaim (fun vs H Q E h => ?_) (fun cdv Ar outer s H vs Q E hr h => ?_)
  · obtain ⟨a, y, rfl, _⟩ := h
    rfl
  · obtain ⟨a, y, rfl, ha, q⟩ := h
    refine ⟨_, pss_one (ps_ost (pv 0) (pv 1)), ?_⟩
    exact ⟨_, rfl, _, rfl, a, Z.cA "BadClaim", rfl, Z1.O, Z1.A_, .inl ⟨ha, fun dx n1 n2 => q dx n1 n2⟩⟩
/-! ### _law_named -/
def spNamed (D : Addr) (nm : Str) : Addr × Obj → Sp := fun p vs H Q _ => ∃ (d : Option Addr), vs = [.ref p.1] ∧ Zc (.ref D) d p.2 ∧ (∃ fs, p.2.data = .fields fs) ∧ (∀ dd, d = some dd → ∃ fs, H dd = some (.xd fs)) ∧
  ∀ H', Adv [] H H' → Q (.str nm) H'
theorem ok_law_named (A : All K mg w) (Z : Exs K mg) {nm : Str} (N : NF Z nm) (j : Nat) (hj : allNames[j]? = some nm) (hc : ((allBs nm).countP fun z => eqV z (V.bl true)) = 1) (hjt : (allBs nm)[j]? = some (V.bl true)) (hjf : ∀ m, m < j → ∀ z, (allBs nm)[m]? = some z → eqV z (V.bl true) = false) :
    FnP P w K mg base 1 A.law_named.f A.law_named.fd ["error"] (spNamed (Z.cA nm) nm) := by
  refine okP A.law_named.F sc_law_named (fun p vs H Q E h => ?_) (fun cdv Ar outer s H vs Q E p hr h => ?_)
  · obtain ⟨d, rfl, _⟩ := h
    rfl
  · obtain ⟨d, rfl, hz, hf, hd, q⟩ := h
    have hdA : ∀ {H'}, Adv [] H H' → ∀ dd, d = some dd → ∃ fs, H' dd = some (.xd fs) := fun a dd e => by
      obtain ⟨fs, h⟩ := hd dd e
      exact ⟨fs, a _ _ (by simp) h⟩
    refine ⟨_, (pss_cons (ps_set (i := 1) sc_law_named.nd rfl (Or.inl rfl) (pe_m1 PySem.F.slot_str_split PySem.F.type_str_split mt_split pe_str pe_str))
  (pss_cons (ps_set (i := 2) sc_law_named.nd rfl (Or.inl rfl) (pe_lst (pa_cons (pe_callB (call_isP N.eD hz hf (List.mem_singleton.mpr rfl)) (by rfl) A.T.isinstance (by decide +kernel) (pa_cons (pv 0) (pa_cons (pe_glob (v := .ref (Z.cA "BadLogic")) rfl (Z.mA "BadLogic" (by decide)) rfl) pa_nil))) (pa_cons (pe_callB (call_isP N.eD hz hf (List.mem_singleton.mpr rfl)) (by rfl) A.T.isinstance (by decide +kernel) (pa_cons (pv 0) (pa_cons (pe_glob (v := .ref (Z.cA "BadSheet")) rfl (Z.mA "BadSheet" (by decide)) rfl) pa_nil))) (pa_cons (pe_callB (call_isP N.eD hz hf (List.mem_singleton.mpr rfl)) (by rfl) A.T.isinstance (by decide +kernel) (pa_cons (pv 0) (pa_cons (pe_glob (v := .ref (Z.cA "BadClaim")) rfl (Z.mA "BadClaim" (by decide)) rfl) pa_nil))) (pa_cons (pe_callB (call_isP N.eD hz hf (List.mem_singleton.mpr rfl)) (by rfl) A.T.isinstance (by decide +kernel) (pa_cons (pv 0) (pa_cons (pe_glob (v := .ref (Z.cA "BadModel")) rfl (Z.mA "BadModel" (by decide)) rfl) pa_nil))) pa_nil))))))
  (pss_cons (ps_set (i := 2) sc_law_named.nd rfl (Or.inl rfl) (pe_op op_cat (pv 2) (pe_lst (pa_cons (pe_callB (call_isP N.eD hz hf (List.mem_singleton.mpr rfl)) (by rfl) A.T.isinstance (by decide +kernel) (pa_cons (pv 0) (pa_cons (pe_glob (v := .ref (Z.cA "BadPaper")) rfl (Z.mA "BadPaper" (by decide)) rfl) pa_nil))) (pa_cons (pe_callB (call_isP N.eD hz hf (List.mem_singleton.mpr rfl)) (by rfl) A.T.isinstance (by decide +kernel) (pa_cons (pv 0) (pa_cons (pe_glob (v := .ref (Z.cA "BadTerm")) rfl (Z.mA "BadTerm" (by decide)) rfl) pa_nil))) (pa_cons (pe_callB (call_isP N.eD hz hf (List.mem_singleton.mpr rfl)) (by rfl) A.T.isinstance (by decide +kernel) (pa_cons (pv 0) (pa_cons (pe_glob (v := .ref (Z.cA "BadEdit")) rfl (Z.mA "BadEdit" (by decide)) rfl) pa_nil))) (pa_cons (pe_callB (call_isP N.eD hz hf (List.mem_singleton.mpr rfl)) (by rfl) A.T.isinstance (by decide +kernel) (pa_cons (pv 0) (pa_cons (pe_glob (v := .ref (Z.cA "BadValue")) rfl (Z.mA "BadValue" (by decide)) rfl) pa_nil))) pa_nil)))))))
  (pss_cons (ps_set (i := 2) sc_law_named.nd rfl (Or.inl rfl) (pe_op op_cat (pv 2) (pe_lst (pa_cons (pe_callB (call_isP N.eD hz hf (List.mem_singleton.mpr rfl)) (by rfl) A.T.isinstance (by decide +kernel) (pa_cons (pv 0) (pa_cons (pe_glob (v := .ref (Z.cA "BadText")) rfl (Z.mA "BadText" (by decide)) rfl) pa_nil))) (pa_cons (pe_callB (call_isP N.eD hz hf (List.mem_singleton.mpr rfl)) (by rfl) A.T.isinstance (by decide +kernel) (pa_cons (pv 0) (pa_cons (pe_glob (v := .ref (Z.cA "BadSize")) rfl (Z.mA "BadSize" (by decide)) rfl) pa_nil))) (pa_cons (pe_callB (call_isP N.eD hz hf (List.mem_singleton.mpr rfl)) (by rfl) A.T.isinstance (by decide +kernel) (pa_cons (pv 0) (pa_cons (pe_glob (v := .ref (Z.cA "TooMany")) rfl (Z.mA "TooMany" (by decide)) rfl) pa_nil))) (pa_cons (pe_callB (call_isP N.eD hz hf (List.mem_singleton.mpr rfl)) (by rfl) A.T.isinstance (by decide +kernel) (pa_cons (pv 0) (pa_cons (pe_glob (v := .ref (Z.cA "NotBoxed")) rfl (Z.mA "NotBoxed" (by decide)) rfl) pa_nil))) pa_nil)))))))
  (pss_cons (ps_set (i := 2) sc_law_named.nd rfl (Or.inl rfl) (pe_op op_cat (pv 2) (pe_lst (pa_cons (pe_callB (call_isP N.eD hz hf (List.mem_singleton.mpr rfl)) (by rfl) A.T.isinstance (by decide +kernel) (pa_cons (pv 0) (pa_cons (pe_glob (v := .ref (Z.cA "NotProved")) rfl (Z.mA "NotProved" (by decide)) rfl) pa_nil))) (pa_cons (pe_callB (call_isP N.eD hz hf (List.mem_singleton.mpr rfl)) (by rfl) A.T.isinstance (by decide +kernel) (pa_cons (pv 0) (pa_cons (pe_glob (v := .ref (Z.cA "NotThere")) rfl (Z.mA "NotThere" (by decide)) rfl) pa_nil))) (pa_cons (pe_callB (call_isP N.eD hz hf (List.mem_singleton.mpr rfl)) (by rfl) A.T.isinstance (by decide +kernel) (pa_cons (pv 0) (pa_cons (pe_glob (v := .ref (Z.cA "NothingToUndo")) rfl (Z.mA "NothingToUndo" (by decide)) rfl) pa_nil))) (pa_cons (pe_callB (call_isP N.eD hz hf (List.mem_singleton.mpr rfl)) (by rfl) A.T.isinstance (by decide +kernel) (pa_cons (pv 0) (pa_cons (pe_glob (v := .ref (Z.cA "NothingToRedo")) rfl (Z.mA "NothingToRedo" (by decide)) rfl) pa_nil))) pa_nil)))))))
  (pss_cons (ps_if (PW.pt (pw_or (pt_cmpR op_ne (pe_bm PySem.F.plainAttrs_list PySem.F.slot_list_count PySem.F.type_list_count mt_countF (pv 2) (pa_cons pe_bl pa_nil)) pe_int (nomark _)) (pw_or (pt_not (pt_val (pe_callB (call_isP N.eD hz hf (List.mem_singleton.mpr rfl)) (by rfl) A.T.isinstance (by decide +kernel) (pa_cons (pv 0) (pa_cons (pe_glob (v := .ref Z.CE) rfl Z.mC rfl) pa_nil))))) (pw_or1 (pt_not (pt_val (pe_callB (call_isP N.eD hz hf (List.mem_singleton.mpr rfl)) (by rfl) A.T.isinstance (by decide +kernel) (pa_cons (pv 0) (pa_cons (pe_bltn (v := .ty "ValueError") (by rfl) A.T.ValueError (by decide +kernel) rfl) pa_nil)))))))))
    (pss_one (ps_ret pe_str))
    pss_nil)
  (pss_one (ps_ret (pe_ix ix_list (pv 1) (pe_bm PySem.F.plainAttrs_list PySem.F.slot_list_index PySem.F.type_list_index mt_index (pv 2) (pa_cons pe_bl pa_nil)) (fun _ _ => rfl)))))))))), ?_⟩
    refine ⟨⟨_, rfl⟩, _, _, rfl, rfl, rfl, by show _ ≤ sizeLine; decide +kernel, ?_⟩
    intro p0 np0
    have a0 : Adv [] H (upd H p0 (.lst (allNames.map V.str))) := Adv.new np0
    have es : Txt.split "BadLogic BadSheet BadClaim BadModel BadPaper BadTerm BadEdit BadValue BadText BadSize TooMany NotBoxed NotProved NotThere NothingToUndo NothingToRedo" " " = allNames := by decide +kernel
    rw [es]
    refine ⟨_, rfl, _, _, _, rfl, fun u h => h, hdA a0, (N.k "BadLogic" (by decide)), _, rfl, _, _, _, rfl, fun u h => h, hdA a0, (N.k "BadSheet" (by decide)), _, rfl, _, _, _, rfl, fun u h => h, hdA a0, (N.k "BadClaim" (by decide)), _, rfl, _, _, _, rfl, fun u h => h, hdA a0, (N.k "BadModel" (by decide)), by show 4 ≤ sizeLine; decide, fun p1 np1 => ?_⟩
    have a1 : Adv [] H (upd (upd H p0 (.lst (allNames.map V.str))) p1 (.lst [.bl (decide (("BadLogic" : Str) = nm)), .bl (decide (("BadSheet" : Str) = nm)), .bl (decide (("BadClaim" : Str) = nm)), .bl (decide (("BadModel" : Str) = nm))])) := a0.newT np1
    have b1 : Adv [] (upd H p0 (.lst (allNames.map V.str))) (upd (upd H p0 (.lst (allNames.map V.str))) p1 (.lst [.bl (decide (("BadLogic" : Str) = nm)), .bl (decide (("BadSheet" : Str) = nm)), .bl (decide (("BadClaim" : Str) = nm)), .bl (decide (("BadModel" : Str) = nm))])) := Adv.new np1
    refine ⟨_, rfl, _, rfl, _, _, _, rfl, fun u h => h, hdA a1, (N.k "BadPaper" (by decide)), _, rfl, _, _, _, rfl, fun u h => h, hdA a1, (N.k "BadTerm" (by decide)), _, rfl, _, _, _, rfl, fun u h => h, hdA a1, (N.k "BadEdit" (by decide)), _, rfl, _, _, _, rfl, fun u h => h, hdA a1, (N.k "BadValue" (by decide)), by show 4 ≤ sizeLine; decide, ?_⟩
    intro p2 np2
    have a2 := a1.newT (o := .lst [.bl (decide (("BadPaper" : Str) = nm)), .bl (decide (("BadTerm" : Str) = nm)), .bl (decide (("BadEdit" : Str) = nm)), .bl (decide (("BadValue" : Str) = nm))]) np2
    have b2 := b1.newT (o := .lst [.bl (decide (("BadPaper" : Str) = nm)), .bl (decide (("BadTerm" : Str) = nm)), .bl (decide (("BadEdit" : Str) = nm)), .bl (decide (("BadValue" : Str) = nm))]) np2
    refine ⟨p1, p2, [.bl (decide (("BadLogic" : Str) = nm)), .bl (decide (("BadSheet" : Str) = nm)), .bl (decide (("BadClaim" : Str) = nm)), .bl (decide (("BadModel" : Str) = nm))], [.bl (decide (("BadPaper" : Str) = nm)), .bl (decide (("BadTerm" : Str) = nm)), .bl (decide (("BadEdit" : Str) = nm)), .bl (decide (("BadValue" : Str) = nm))], rfl, rfl, ?_, upd_same, by show 8 ≤ sizeLine; decide, ?_⟩
    · rw [upd_ne (ne_of_none (o := .lst [.bl (decide (("BadLogic" : Str) = nm)), .bl (decide (("BadSheet" : Str) = nm)), .bl (decide (("BadClaim" : Str) = nm)), .bl (decide (("BadModel" : Str) = nm))]) upd_same np2)]; exact upd_same
    intro p3 np3
    have a3 := a2.newT (o := .lst [.bl (decide (("BadLogic" : Str) = nm)), .bl (decide (("BadSheet" : Str) = nm)), .bl (decide (("BadClaim" : Str) = nm)), .bl (decide (("BadModel" : Str) = nm)), .bl (decide (("BadPaper" : Str) = nm)), .bl (decide (("BadTerm" : Str) = nm)), .bl (decide (("BadEdit" : Str) = nm)), .bl (decide (("BadValue" : Str) = nm))]) np3
    have b3 := b2.newT (o := .lst [.bl (decide (("BadLogic" : Str) = nm)), .bl (decide (("BadSheet" : Str) = nm)), .bl (decide (("BadClaim" : Str) = nm)), .bl (decide (("BadModel" : Str) = nm)), .bl (decide (("BadPaper" : Str) = nm)), .bl (decide (("BadTerm" : Str) = nm)), .bl (decide (("BadEdit" : Str) = nm)), .bl (decide (("BadValue" : Str) = nm))]) np3
    refine ⟨_, rfl, _, rfl, _, _, _, rfl, fun u h => h, hdA a3, (N.k "BadText" (by decide)), _, rfl, _, _, _, rfl, fun u h => h, hdA a3, (N.k "BadSize" (by decide)), _, rfl, _, _, _, rfl, fun u h => h, hdA a3, (N.k "TooMany" (by decide)), _, rfl, _, _, _, rfl, fun u h => h, hdA a3, (N.k "NotBoxed" (by decide)), by show 4 ≤ sizeLine; decide, ?_⟩
    intro p4 np4
    have a4 := a3.newT (o := .lst [.bl (decide (("BadText" : Str) = nm)), .bl (decide (("BadSize" : Str) = nm)), .bl (decide (("TooMany" : Str) = nm)), .bl (decide (("NotBoxed" : Str) = nm))]) np4
    have b4 := b3.newT (o := .lst [.bl (decide (("BadText" : Str) = nm)), .bl (decide (("BadSize" : Str) = nm)), .bl (decide (("TooMany" : Str) = nm)), .bl (decide (("NotBoxed" : Str) = nm))]) np4
    refine ⟨p3, p4, [.bl (decide (("BadLogic" : Str) = nm)), .bl (decide (("BadSheet" : Str) = nm)), .bl (decide (("BadClaim" : Str) = nm)), .bl (decide (("BadModel" : Str) = nm)), .bl (decide (("BadPaper" : Str) = nm)), .bl (decide (("BadTerm" : Str) = nm)), .bl (decide (("BadEdit" : Str) = nm)), .bl (decide (("BadValue" : Str) = nm))], [.bl (decide (("BadText" : Str) = nm)), .bl (decide (("BadSize" : Str) = nm)), .bl (decide (("TooMany" : Str) = nm)), .bl (decide (("NotBoxed" : Str) = nm))], rfl, rfl, ?_, upd_same, by show 12 ≤ sizeLine; decide, ?_⟩
    · rw [upd_ne (ne_of_none (o := .lst [.bl (decide (("BadLogic" : Str) = nm)), .bl (decide (("BadSheet" : Str) = nm)), .bl (decide (("BadClaim" : Str) = nm)), .bl (decide (("BadModel" : Str) = nm)), .bl (decide (("BadPaper" : Str) = nm)), .bl (decide (("BadTerm" : Str) = nm)), .bl (decide (("BadEdit" : Str) = nm)), .bl (decide (("BadValue" : Str) = nm))]) upd_same np4)]; exact upd_same
    intro p5 np5
    have a5 := a4.newT (o := .lst [.bl (decide (("BadLogic" : Str) = nm)), .bl (decide (("BadSheet" : Str) = nm)), .bl (decide (("BadClaim" : Str) = nm)), .bl (decide (("BadModel" : Str) = nm)), .bl (decide (("BadPaper" : Str) = nm)), .bl (decide (("BadTerm" : Str) = nm)), .bl (decide (("BadEdit" : Str) = nm)), .bl (decide (("BadValue" : Str) = nm)), .bl (decide (("BadText" : Str) = nm)), .bl (decide (("BadSize" : Str) = nm)), .bl (decide (("TooMany" : Str) = nm)), .bl (decide (("NotBoxed" : Str) = nm))]) np5
    have b5 := b4.newT (o := .lst [.bl (decide (("BadLogic" : Str) = nm)), .bl (decide (("BadSheet" : Str) = nm)), .bl (decide (("BadClaim" : Str) = nm)), .bl (decide (("BadModel" : Str) = nm)), .bl (decide (("BadPaper" : Str) = nm)), .bl (decide (("BadTerm" : Str) = nm)), .bl (decide (("BadEdit" : Str) = nm)), .bl (decide (("BadValue" : Str) = nm)), .bl (decide (("BadText" : Str) = nm)), .bl (decide (("BadSize" : Str) = nm)), .bl (decide (("TooMany" : Str) = nm)), .bl (decide (("NotBoxed" : Str) = nm))]) np5
    refine ⟨_, rfl, _, rfl, _, _, _, rfl, fun u h => h, hdA a5, (N.k "NotProved" (by decide)), _, rfl, _, _, _, rfl, fun u h => h, hdA a5, (N.k "NotThere" (by decide)), _, rfl, _, _, _, rfl, fun u h => h, hdA a5, (N.k "NothingToUndo" (by decide)), _, rfl, _, _, _, rfl, fun u h => h, hdA a5, (N.k "NothingToRedo" (by decide)), by show 4 ≤ sizeLine; decide, ?_⟩
    intro p6 np6
    have a6 := a5.newT (o := .lst [.bl (decide (("NotProved" : Str) = nm)), .bl (decide (("NotThere" : Str) = nm)), .bl (decide (("NothingToUndo" : Str) = nm)), .bl (decide (("NothingToRedo" : Str) = nm))]) np6
    have b6 := b5.newT (o := .lst [.bl (decide (("NotProved" : Str) = nm)), .bl (decide (("NotThere" : Str) = nm)), .bl (decide (("NothingToUndo" : Str) = nm)), .bl (decide (("NothingToRedo" : Str) = nm))]) np6
    refine ⟨p5, p6, [.bl (decide (("BadLogic" : Str) = nm)), .bl (decide (("BadSheet" : Str) = nm)), .bl (decide (("BadClaim" : Str) = nm)), .bl (decide (("BadModel" : Str) = nm)), .bl (decide (("BadPaper" : Str) = nm)), .bl (decide (("BadTerm" : Str) = nm)), .bl (decide (("BadEdit" : Str) = nm)), .bl (decide (("BadValue" : Str) = nm)), .bl (decide (("BadText" : Str) = nm)), .bl (decide (("BadSize" : Str) = nm)), .bl (decide (("TooMany" : Str) = nm)), .bl (decide (("NotBoxed" : Str) = nm))], [.bl (decide (("NotProved" : Str) = nm)), .bl (decide (("NotThere" : Str) = nm)), .bl (decide (("NothingToUndo" : Str) = nm)), .bl (decide (("NothingToRedo" : Str) = nm))], rfl, rfl, ?_, upd_same, by show 16 ≤ sizeLine; decide, ?_⟩
    · rw [upd_ne (ne_of_none (o := .lst [.bl (decide (("BadLogic" : Str) = nm)), .bl (decide (("BadSheet" : Str) = nm)), .bl (decide (("BadClaim" : Str) = nm)), .bl (decide (("BadModel" : Str) = nm)), .bl (decide (("BadPaper" : Str) = nm)), .bl (decide (("BadTerm" : Str) = nm)), .bl (decide (("BadEdit" : Str) = nm)), .bl (decide (("BadValue" : Str) = nm)), .bl (decide (("BadText" : Str) = nm)), .bl (decide (("BadSize" : Str) = nm)), .bl (decide (("TooMany" : Str) = nm)), .bl (decide (("NotBoxed" : Str) = nm))]) upd_same np6)]; exact upd_same
    intro p7 np7
    have a7 := a6.newT (o := .lst (allBs nm)) np7
    have b7 := b6.newT (o := .lst (allBs nm)) np7
    have h0 := b7 p0 _ (by simp) upd_same
    have hfl : (allBs nm).all flatV = true := rfl
    refine ⟨_, rfl, .inl ⟨rfl, _, SqL.of upd_same⟩, p7, allBs nm, .bl true, rfl, rfl, SqL.of upd_same, rfl, hfl, rfl, _, rfl, iteN (by rw [hc]; rfl) ?_⟩
    refine ⟨_, rfl, _, _, _, rfl, fun u h => h, hdA a7, N.kC, _, rfl, iteN (by decide) ?_⟩
    refine ⟨_, rfl, _, _, _, rfl, fun u h => h, hdA a7, N.kV, _, rfl, iteN (by decide) ?_⟩
    refine ⟨_, rfl, _, rfl, .inl ⟨rfl, _, SqL.of upd_same⟩, p7, allBs nm, .bl true, j, .bl true, rfl, rfl, SqL.of upd_same, rfl, hfl, hjt, rfl, fun m z hm hz => hjf m hm z hz, p0, _, _, _, rfl, rfl, SqL.of h0, atI_nat (j := j) (by rw [List.getElem?_map, hj]; rfl), ?_⟩
    exact q _ a7
/-- it is called in an except suite -/
def tHeld (D : Addr) (nm : Str) (a : Addr) (cls : Value) (d : Option Addr) (i : Nat) : TE := fun σ H Q => tVar i σ H fun x H1 => x = .ref a ∧ cls = .ref D ∧ (∀ dd, d = some dd → ∃ fs, H1 dd = some (.xd fs)) ∧ ∀ H', Adv [] H1 H' → Q (.str nm) H'
structure Nam (K : PySem.W.Frag) (mg : Str → Option Value) (Z : Exs K mg) (nm : Str) : Prop where
  N : NF Z nm
  ex : ∃ j : Nat, allNames[j]? = some nm ∧ ((allBs nm).countP fun z => eqV z (V.bl true)) = 1 ∧ (allBs nm)[j]? = some (V.bl true) ∧ ∀ m : Nat, m < j → ∀ z, (allBs nm)[m]? = some z → eqV z (V.bl true) = false
theorem takes_no {X : Cx} : L2N.Takes X (fun _ _ _ _ => False) := fun u s' ⟨_, _, _, _, _, _, _, _, _, _, _, _, _, _, _, _, w⟩ => w.elim
/-- of several classes: the one that the held error is of -/
def tHeldA (Z : Exs K mg) (a : Addr) (cls : Value) (d : Option Addr) (i : Nat) : TE := fun σ H Q => tVar i σ H fun x H1 => x = .ref a ∧ ∃ nm, Nam K mg Z nm ∧ cls = .ref (Z.cA nm) ∧ (∀ dd, d = some dd → ∃ fs, H1 dd = some (.xd fs)) ∧ ∀ H', Adv [] H1 H' → Q (.str nm) H'
theorem pe_named {X : Cx} (A : All X.K X.mg X.w) (Z : Exs X.K X.mg) (hr : Room 1 X.A) (hg : Gl X "_law_named") {a : Addr} {oe : Obj} {cls : Value} {d : Option Addr} {pn : List (Addr × Obj)} (hz : Zc cls d oe) (hf : ∃ vs, oe.data = .fields vs)
    {y : Str} {i : Nat} {q pos ep : Pos} (he : PE (X.suite a ((a, oe) :: pn)) (.Name y ep) (tVar i)) :
    PE (X.suite a ((a, oe) :: pn)) (.Call (.Name "_law_named" q) [.Name y ep] [] pos) (tHeldA Z a cls d i) := by
  refine ⟨fun pins s σ H Q I h => ?_⟩
  obtain ⟨x, hx, ex, nm, N, ec, hd, q⟩ := h
  obtain ⟨j, h1, h2, h3, h4⟩ := N.ex
  refine (pe_callP (X := X.suite a ((a, oe) :: pn)) (p := (a, oe)) (E := E0) (ok_law_named (P := X.prog) (base := X.base) A Z N.N j h1 h2 h3 h4) ⟨hr.dp, hr.un⟩ List.mem_cons_self hg A.law_named.m A.law_named.F.kp A.law_named.b (pa_cons he pa_nil)).run pins s σ H Q I ?_
  exact ⟨x, hx, d, by rw [ex], by rw [← ec]; exact hz, hf, hd, q⟩
end
end K60

set_option Elab.async false
set_option linter.all false
set_option maxRecDepth 100000
set_option maxHeartbeats 400000
namespace K60
open PySem PySem.Spec PyProof.Rows L2 LL
open C8 (pss_cut)
local macro_rules | `(tactic| walk_at "ne") => `(tactic| first | assumption | (apply Ne.symm; assumption) | exact ne_of_none (by walk_at "hp") (by assumption) | exact (ne_of_none (by walk_at "hp") (by assumption)).symm)
local macro_rules | `(tactic| walk_at "nm") => `(tactic| first | assumption | exact notin0 | exact notin1 (by walk_at "ne") | exact notin2 (by walk_at "ne") (by walk_at "ne"))
local macro_rules | `(tactic| walk_at "hp") => `(tactic| first | assumption | exact upd_same | (refine Eq.trans (upd_ne ?ne) ?hh; (case hh => walk_at "hp"); (case ne => walk_at "ne")) | (refine Adv.get' (by assumption) ?hh ?nn; (case hh => walk_at "hp"); (case nn => walk_at "nm")))
local macro_rules | `(tactic| walk_at "tp") => `(tactic| first | assumption | exact Tp.adv (by walk_at "tp") (by assumption) | exact Tp.adv (by walk_at "tp") (Adv.nil (by assumption)))
local macro_rules | `(tactic| walk_at "sq") => `(tactic| first | assumption | exact Tp.sq (by assumption) (by walk_at "tp") | exact SqT.of (by walk_at "hp"))
local macro_rules | `(tactic| walk_at "at") => `(tactic| first | exact atI_nat (j := 0) rfl | exact atI_nat (j := 1) rfl | exact atI_nat (j := 2) rfl | exact atI_nat (j := 3) rfl | exact atI_nat (by assumption) | (rw [Int.zero_add]; exact atI_nat (by assumption)))
local macro_rules | `(tactic| walk_at "bb") => `(tactic| first | assumption | decide | exact rfl)
local macro_rules | `(tactic| walk_at "ci") => `(tactic| first | omega | (dsimp only; omega) | (unfold CDiv; omega) | (unfold CMul; omega))
local macro_rules | `(tactic| walk_at "rd1") => `(tactic| first
  | with_reducible refine rd_c ?_
  | ((with_reducible refine' rd_var ?rh ?_); (case rh => exact rfl))
  | with_reducible refine rd_op ?_
  | with_reducible refine rd_seq ?_
  | with_reducible refine rd_asg ?_
  | with_reducible refine rd_gname ?_
  | with_reducible refine rd_ifS ?_
  | with_reducible refine rd_test ?_
  | with_reducible refine rd_tB ?_
  | with_reducible refine rd_blP ?_
  | ((with_reducible refine' iteY ?rh ?_); (case rh => walk_at "bb"))
  | ((with_reducible refine' iteN ?rh ?_); (case rh => walk_at "bb"))
  | with_reducible refine rd_ret ?_
  | with_reducible refine rd_nx ?_
  | ((with_reducible refine' rd_eq ?rh ?_); (case rh => exact rfl))
  | ((with_reducible refine' rd_ne ?rh ?_); (case rh => exact rfl))
  | with_reducible refine rd_add ?_
  | with_reducible refine rd_sub ?_
  | with_reducible refine rd_i0 ?_
  | with_reducible refine rd_and ?_
  | with_reducible refine rd_or ?_
  | with_reducible refine rd_not ?_
  | with_reducible refine rd_andV ?_
  | with_reducible refine rd_orV ?_
  | with_reducible refine rd_notV ?_
  | with_reducible refine rd_ifE ?_
  | with_reducible refine rd_isN ?_
  | with_reducible refine rd_notN ?_
  | with_reducible refine rd_cons ?_
  | with_reducible refine rd_nil ?_
  | with_reducible refine rd_tup ?_
  | with_reducible refine rd_lst ?_
  | with_reducible refine rd_call ?_
  | with_reducible refine rd_cb ?_
  | with_reducible refine rd_meth ?_
  | with_reducible refine rd_callS ?_
  | with_reducible refine rd_make ?_
  | with_reducible refine rd_rfl ?_
  | with_reducible refine rd_fld ?_
  | with_reducible refine rd_drop ?_
  | with_reducible refine rd_gsub ?_
  | with_reducible refine rd_gcons ?_
  | with_reducible refine rd_gnil ?_
  | with_reducible refine rd_par ?_
  | with_reducible refine rd_two ?_
  | with_reducible refine rd_par3 ?_
  | with_reducible refine rd_three ?_
  | with_reducible refine rd_int1 ?_
  | ((with_reducible refine' rd_i ?rh ?_); (case rh => walk_at "ci"))
  | with_reducible refine rd_part ?_
  | with_reducible refine rd_nopart ?_
  | with_reducible refine rd_int ?_
  | with_reducible refine rd_sl ?_
  | with_reducible refine rd_bm ?_
  | with_reducible refine rd_bm0 ?_
  | with_reducible refine rd_dgetT ?_
  | with_reducible refine rd_din ?_
  | with_reducible refine rd_dnin ?_
  | with_reducible refine rd_un ?_
  | ((with_reducible refine' rd_ixL ?rh ?re ?_); (case rh => walk_at "hp"); (case re => walk_at "at"))
  | ((with_reducible refine' rd_ixT ?rh ?re ?_); (case rh => walk_at "sq"); (case re => walk_at "at"))
  | ((with_reducible refine' rd_lenT ?rh ?_); (case rh => walk_at "sq"))
  | ((with_reducible refine' rd_tyL ?rh ?_); (case rh => walk_at "hp"))
  | ((with_reducible refine' rd_len ?rh ?_); (case rh => walk_at "hp"))
  | with_reducible refine rd_u ?_
  | ((with_reducible refine' rd_slL ?rh ?_); (case rh => walk_at "hp"))
  | with_reducible refine rd_for ?_
  | with_reducible refine rd_rng1 ?_
  | with_reducible refine rd_rng2 ?_
  | with_reducible refine rd_ints1 ?_
  | with_reducible refine rd_ints2 ?_
  | with_reducible refine rd_retN ?_)
local macro_rules | `(tactic| walk_at "rd") => `(tactic| repeat walk_at "rd1")
section
variable [KW]
variable {P : Program} {w : World} {K : PySem.W.Frag} {mg : Str → Option Value} {base : Heap}
/-- a node that was written just now is put into the book -/
theorem row_dn {M : List Addr} {H H0 : Hp} {s bk b0 b1 p : Addr} {bx : Bool} {ns0 ns : List Nd} {c : Nat} {Q : VK} (n : Nd) (D : Dw M H s bk b0 b1 bx ns) (hp : H p = none) (hn : n.ok bx ns.length = true) (hl : ns.length ≤ 900000)
    (pre : ns0 <+: ns) (hc : ns.length + 1 ≤ ns0.length + c) (a0 : Adv [s, b0, b1] H0 H) (q : ∀ r ns' H', Dn c M s bk b0 b1 bx ns0 H0 r ns' H' → Q (.int (r : Nat)) H') : RowP [.ref bk, .ref p] (upd H p (.tup (n.keys.map kV))) Q := by
  have a : Adv [] H (upd H p (.tup (n.keys.map kV))) := Adv.new hp
  have D1 := D.same a
  have h1 := row_len ns n
  exact ⟨⟨M, bk, b0, b1, p, ns, n, rfl, D1.hbk, D.kM, D1.B, Tp.of upd_same (not_mem_new D.B.al hp), by omega, fun H' B' a' => q _ _ H' ⟨pre.trans (rowF_pre ns n), rowF_lt ns n, by omega, D1.row hn a' B', (a0.trans (Adv.nil a)).trans (a_b a')⟩⟩⟩
/-! ### _law_leaf -/
structure LeafP (vs : List V) (H : Hp) (Q : VK) : Prop where
  ex : ∃ (M : List Addr) (s bk b0 b1 : Addr) (bx : Bool) (ns : List Nd) (letters : Int), vs = [.ref s, .ref bk, .int letters] ∧ Dw M H s bk b0 b1 bx ns ∧ 0 < letters ∧ letters ≤ 8 ∧ ns.length ≤ 900000 ∧
    ∀ r ns' H', Dn 1 M s bk b0 b1 bx ns H r ns' H' → Q (.int (r : Nat)) H'
def spLeaf : Sp := fun vs H Q _ => LeafP vs H Q
theorem ok_law_leaf (A : All K mg w) : FnOk P w K mg base CX0 2 A.law_leaf.f A.law_leaf.fd ["stream", "book", "letters"] spLeaf := by
  refine A.law_leaf.F.ok sc_law_leaf (fun vs H Q E h => ?_) (fun cdv Ar outer s H vs Q E hr h => ?_)
  · obtain ⟨M, s, bk, b0, b1, bx, ns, letters, rfl, _⟩ := h.ex
    rfl
  · obtain ⟨M, s, bk, b0, b1, bx, ns, letters, rfl, D, l0, l1, hl, q⟩ := h.ex
    refine ⟨_, (pss_one (ps_ret (pe_call (ok_law_row A) (hr.mono (by omega)) rfl A.law_row.m A.law_row.F.kp A.law_row.b .nil pass0 (pa_cons (pv 1) (pa_cons (pe_ifExp (pt_cmpR op_eq (pe_call (ok_law_next A) (hr.mono (by omega)) rfl A.law_next.m A.law_next.F.kp A.law_next.b .nil pass0 (pa_cons (pv 0) (pa_cons pe_int pa_nil))) pe_int (nomark _)) (pe_tup (pa_cons pe_str pa_nil)) (pe_tup (pa_cons pe_str (pa_cons (pe_call (ok_law_next A) (hr.mono (by omega)) rfl A.law_next.m A.law_next.F.kp A.law_next.b .nil pass0 (pa_cons (pv 0) (pa_cons (pv 2) pa_nil))) pa_nil)))) pa_nil))))), ?_⟩
    walk_at "rd"
    refine ⟨s, 7, M, rfl, D.str, by decide, by decide, fun d H1 d0 d1 hs1 a1 => ?_⟩
    have D1 := D.next a1 hs1
    walk_at "rd"
    refine iteB (fun e => ?_) (fun e => ?_)
    · walk_at "rd"
      refine ⟨by show 1 ≤ sizeLine; decide, fun p np => ?_⟩
      walk_at "rd"
      exact row_dn .no D1 np rfl hl (List.prefix_refl _) (by omega) (a_s a1) q
    · walk_at "rd"
      refine ⟨s, letters, M, rfl, hs1, l0, by omega, fun x H2 x0 x1 hs2 a2 => ?_⟩
      have D2 := D1.next a2 hs2
      obtain ⟨j, rfl⟩ : ∃ j : Nat, x = (j : Int) := ⟨x.toNat, by omega⟩
      walk_at "rd"
      refine ⟨by show 2 ≤ sizeLine; decide, fun p np => ?_⟩
      walk_at "rd"
      exact row_dn (.letter j) D2 np (by simp only [Nd.ok, decide_eq_true_eq]; omega) hl (List.prefix_refl _) (by omega) ((a_s a1).trans (a_s a2)) q
/-! ### _law_tree -/
structure TreeP (c : Int → Nat) (m : Nat) (vs : List V) (H : Hp) (Q : VK) : Prop where
  ex : ∃ (M : List Addr) (s bk b0 b1 : Addr) (bx : Bool) (ns : List Nd) (letters many : Int), vs = [.ref s, .ref bk, .int letters, .int many, .bl bx] ∧ Dw M H s bk b0 b1 bx ns ∧ 0 < letters ∧ letters ≤ 8 ∧ 0 ≤ many ∧ many ≤ m ∧ m ≤ 1000 ∧ ns.length + 4 * many.toNat ≤ 800000 ∧
    ∀ r ns' H', Dn (c many) M s bk b0 b1 bx ns H r ns' H' → Q (.int (r : Nat)) H'
def spTree (m : Nat) : Sp := fun vs H Q _ => TreeP (fun many => 2 * many.toNat + 1) m vs H Q
theorem op_pick {x : V} (h : x ∈ [V.str "and", .str "or", .str "if", .str "if"]) : ∃ o : Op3, x = .str o.str := by
  simp at h
  rcases h with h | h | h
  · exact ⟨.and, h⟩
  · exact ⟨.or, h⟩
  · exact ⟨.imp, h⟩
theorem tree_0 (A : All K mg w) : FnOk P w K mg base CX0 3 A.law_tree.f A.law_tree.fd ["stream", "book", "letters", "many", "boxed"] (spTree 0) := by
  refine A.law_tree.F.ok sc_law_tree (fun vs H Q E h => ?_) (fun cdv Ar outer s H vs Q E hr h => ?_)
  · obtain ⟨M, s, bk, b0, b1, bx, ns, letters, many, rfl, _⟩ := h.ex
    rfl
  · obtain ⟨M, s, bk, b0, b1, bx, ns, letters, many, rfl, D, l0, l1, m0, mm, m1, hl, q⟩ := h.ex
    refine ⟨_, (pss_cons (ps_if (pt_cmpR op_le (pv 3) pe_int (nomark _))
    (pss_one (ps_ret (pe_call (ok_law_leaf A) (hr.mono (by omega)) rfl A.law_leaf.m A.law_leaf.F.kp A.law_leaf.b .nil pass0 (pa_cons (pv 0) (pa_cons (pv 1) (pa_cons (pv 2) pa_nil))))))
    pss_nil)
  (pss_cut (ps_if (PW.pt (pw_and (pt_val (pv 4)) (pw_and1 (pt_cmpR op_lt (pe_call (ok_law_next A) (hr.mono (by omega)) rfl A.law_next.m A.law_next.F.kp A.law_next.b .nil pass0 (pa_cons (pv 0) (pa_cons pe_int pa_nil))) pe_int (nomark _)))))
    (pss_one (ps_ret (pe_call (ok_law_row A) (hr.mono (by omega)) rfl A.law_row.m A.law_row.F.kp A.law_row.b .nil pass0 (pa_cons (pv 1) (pa_cons (pe_tup (pa_cons pe_str (pa_cons pe_never pa_nil))) pa_nil)))))
    pss_nil)
  (pss_cons (ps_set (i := 5) sc_law_tree.nd rfl (Or.inl rfl) (pe_call (ok_law_next A) (hr.mono (by omega)) rfl A.law_next.m A.law_next.F.kp A.law_next.b .nil pass0 (pa_cons (pv 0) (pa_cons (pv 3) pa_nil))))
  (pss_cons (ps_set (i := 6) sc_law_tree.nd rfl (Or.inl rfl) pe_never)
  (pss_cons (ps_set (i := 7) sc_law_tree.nd rfl (Or.inl rfl) pe_never)
  (pss_one (ps_ret (pe_call (ok_law_row A) (hr.mono (by omega)) rfl A.law_row.m A.law_row.F.kp A.law_row.b .nil pass0 (pa_cons (pv 1) (pa_cons (pe_tup (pa_cons (pe_call (ok_law_pick A) (hr.mono (by omega)) rfl A.law_pick.m A.law_pick.F.kp A.law_pick.b .nil pass0 (pa_cons (pv 0) (pa_cons (pe_tup (pa_cons pe_str (pa_cons pe_str (pa_cons pe_str (pa_cons pe_str pa_nil))))) pa_nil))) (pa_cons (pv 6) (pa_cons (pv 7) pa_nil)))) pa_nil)))))))))), ?_⟩
    walk_at "rd"
    refine iteB (fun e => ?_) (fun e => ?_)
    · walk_at "rd"
      exact ⟨⟨M, s, bk, b0, b1, bx, ns, letters, rfl, D, l0, l1, by omega, fun r ns' H' x => q r ns' H' ⟨x.pre, x.lt, by have := x.le; omega, x.D, x.a⟩⟩⟩
    · have hm0 : ¬ many ≤ 0 := of_decide_eq_false e
      omega
theorem tree_s (A : All K mg w) {m : Nat} (G : FnOk P w K mg base CX0 (m + 3) A.law_tree.f A.law_tree.fd ["stream", "book", "letters", "many", "boxed"] (spTree m)) : FnOk P w K mg base CX0 (m + 4) A.law_tree.f A.law_tree.fd ["stream", "book", "letters", "many", "boxed"] (spTree (m + 1)) := by
  refine A.law_tree.F.ok sc_law_tree (fun vs H Q E h => ?_) (fun cdv Ar outer s H vs Q E hr h => ?_)
  · obtain ⟨M, s, bk, b0, b1, bx, ns, letters, many, rfl, _⟩ := h.ex
    rfl
  · obtain ⟨M, s, bk, b0, b1, bx, ns, letters, many, rfl, D, l0, l1, m0, mm, m1, hl, q⟩ := h.ex
    refine ⟨_, (pss_cons (ps_if (pt_cmpR op_le (pv 3) pe_int (nomark _))
    (pss_one (ps_ret (pe_call (ok_law_leaf A) (hr.mono (by omega)) rfl A.law_leaf.m A.law_leaf.F.kp A.law_leaf.b .nil pass0 (pa_cons (pv 0) (pa_cons (pv 1) (pa_cons (pv 2) pa_nil))))))
    pss_nil)
  (pss_cut (ps_if (PW.pt (pw_and (pt_val (pv 4)) (pw_and1 (pt_cmpR op_lt (pe_call (ok_law_next A) (hr.mono (by omega)) rfl A.law_next.m A.law_next.F.kp A.law_next.b .nil pass0 (pa_cons (pv 0) (pa_cons pe_int pa_nil))) pe_int (nomark _)))))
    (pss_one (ps_ret (pe_call (ok_law_row A) (hr.mono (by omega)) rfl A.law_row.m A.law_row.F.kp A.law_row.b .nil pass0 (pa_cons (pv 1) (pa_cons (pe_tup (pa_cons pe_str (pa_cons (pe_call G (hr.mono (by omega)) rfl A.law_tree.m A.law_tree.F.kp A.law_tree.b .nil pass0 (pa_cons (pv 0) (pa_cons (pv 1) (pa_cons (pv 2) (pa_cons (pe_op op_sub (pv 3) pe_int) (pa_cons (pv 4) pa_nil)))))) pa_nil))) pa_nil)))))
    pss_nil)
  (pss_cons (ps_set (i := 5) sc_law_tree.nd rfl (Or.inl rfl) (pe_call (ok_law_next A) (hr.mono (by omega)) rfl A.law_next.m A.law_next.F.kp A.law_next.b .nil pass0 (pa_cons (pv 0) (pa_cons (pv 3) pa_nil))))
  (pss_cons (ps_set (i := 6) sc_law_tree.nd rfl (Or.inl rfl) (pe_call G (hr.mono (by omega)) rfl A.law_tree.m A.law_tree.F.kp A.law_tree.b .nil pass0 (pa_cons (pv 0) (pa_cons (pv 1) (pa_cons (pv 2) (pa_cons (pv 5) (pa_cons (pv 4) pa_nil)))))))
  (pss_cons (ps_set (i := 7) sc_law_tree.nd rfl (Or.inl rfl) (pe_call G (hr.mono (by omega)) rfl A.law_tree.m A.law_tree.F.kp A.law_tree.b .nil pass0 (pa_cons (pv 0) (pa_cons (pv 1) (pa_cons (pv 2) (pa_cons (pe_op op_sub (pe_op op_sub (pv 3) pe_int) (pv 5)) (pa_cons (pv 4) pa_nil)))))))
  (pss_one (ps_ret (pe_call (ok_law_row A) (hr.mono (by omega)) rfl A.law_row.m A.law_row.F.kp A.law_row.b .nil pass0 (pa_cons (pv 1) (pa_cons (pe_tup (pa_cons (pe_call (ok_law_pick A) (hr.mono (by omega)) rfl A.law_pick.m A.law_pick.F.kp A.law_pick.b .nil pass0 (pa_cons (pv 0) (pa_cons (pe_tup (pa_cons pe_str (pa_cons pe_str (pa_cons pe_str (pa_cons pe_str pa_nil))))) pa_nil))) (pa_cons (pv 6) (pa_cons (pv 7) pa_nil)))) pa_nil)))))))))), ?_⟩
    walk_at "rd"
    refine iteB (fun e => ?_) (fun e => ?_)
    · walk_at "rd"
      exact ⟨⟨M, s, bk, b0, b1, bx, ns, letters, rfl, D, l0, l1, by omega, fun r ns' H' x => q r ns' H' ⟨x.pre, x.lt, by have := x.le; omega, x.D, x.a⟩⟩⟩
    have hm0 : ¬ many ≤ 0 := of_decide_eq_false e
    walk_at "rd"
    refine ⟨fun σ' H' => σ' = [some (.ref s), some (.ref bk), some (.int letters), some (.int many), some (.bl bx), none, none, none] ∧ Dw M H' s bk b0 b1 bx ns ∧ Adv [s, b0, b1] H H', ?_, ?_⟩
    · cases bx with
      | false =>
        walk_at "rd"
        exact ⟨rfl, D, Adv.refl _ _⟩
      | true =>
        walk_at "rd"
        refine ⟨s, 5, M, rfl, D.str, by decide, by decide, fun d H1 d0 d1 hs1 a1 => ?_⟩
        have D1 := D.next a1 hs1
        walk_at "rd"
        refine iteB (fun e => ?_) (fun e => ?_)
        · walk_at "rd"
          refine ⟨⟨M, s, bk, b0, b1, true, ns, letters, many - 1, rfl, D1, l0, l1, by omega, by omega, by omega, by omega, fun j ns2 H2 x => ?_⟩⟩
          have xl := x.le
          have xj := x.lt
          walk_at "rd"
          refine ⟨by show 2 ≤ sizeLine; decide, fun p np => ?_⟩
          walk_at "rd"
          exact row_dn (.box j) x.D np (by simp only [Nd.ok, Bool.true_and, decide_eq_true_eq]; exact x.lt) (by omega) x.pre (by omega) ((a_s a1).trans x.a) q
        · walk_at "rd"
          exact ⟨rfl, D1, a_s a1⟩
    · rintro σ' H1 ⟨rfl, D1, a1⟩
      walk_at "rd"
      refine ⟨s, many, M, rfl, D1.str, by omega, by omega, fun f H2 f0 f1 hs2 a2 => ?_⟩
      have D2 := D1.next a2 hs2
      walk_at "rd"
      refine ⟨⟨M, s, bk, b0, b1, bx, ns, letters, f, rfl, D2, l0, l1, f0, by omega, by omega, by omega, fun j ns3 H3 x3 => ?_⟩⟩
      have xl3 := x3.le
      have xj3 := x3.lt
      have xg3 := x3.ge
      walk_at "rd"
      refine ⟨⟨M, s, bk, b0, b1, bx, ns3, letters, many - 1 - f, rfl, x3.D, l0, l1, by omega, by omega, by omega, by omega, fun k ns4 H4 x4 => ?_⟩⟩
      have xl4 := x4.le
      have xj4 := x4.lt
      have xg4 := x4.ge
      walk_at "rd"
      refine ⟨by show 4 ≤ sizeLine; decide, fun p np => ?_⟩
      have D5 := x4.D.same (Adv.new (o := .tup [.str "and", .str "or", .str "if", .str "if"]) np)
      refine ⟨s, p, [.str "and", .str "or", .str "if", .str "if"], M, rfl, D5.str, .inr upd_same, (x4.D.free np).2.1, by simp, by simp, fun x H6 hx hs6 a6 => ?_⟩
      have D6 := D5.next a6 hs6
      obtain ⟨o, rfl⟩ := op_pick hx
      walk_at "rd"
      refine ⟨by show 3 ≤ sizeLine; decide, fun t nt => ?_⟩
      walk_at "rd"
      exact row_dn (.bin o j k) D6 nt (by simp only [Nd.ok, Bool.and_eq_true, decide_eq_true_eq]; omega) (by omega) (x3.pre.trans x4.pre) (by omega) (((((a1.trans (a_s a2)).trans x3.a).trans x4.a).newT np).trans (a_s a6)) q
theorem ok_law_tree (A : All K mg w) : ∀ m : Nat, FnOk P w K mg base CX0 (m + 3) A.law_tree.f A.law_tree.fd ["stream", "book", "letters", "many", "boxed"] (spTree m)
  | 0 => tree_0 A
  | m + 1 => tree_s A (ok_law_tree A m)
end
end K60

set_option Elab.async false
set_option linter.all false
set_option maxRecDepth 100000
set_option maxHeartbeats 400000
namespace K60
open PySem PySem.Spec PyProof.Rows L2 LL
open C8 (pss_cut)
local macro_rules | `(tactic| walk_at "ne") => `(tactic| first | assumption | (apply Ne.symm; assumption) | exact ne_of_none (by walk_at "hp") (by assumption) | exact (ne_of_none (by walk_at "hp") (by assumption)).symm)
local macro_rules | `(tactic| walk_at "nm") => `(tactic| first | assumption | exact notin0 | exact notin1 (by walk_at "ne") | exact notin2 (by walk_at "ne") (by walk_at "ne"))
local macro_rules | `(tactic| walk_at "hp") => `(tactic| first | assumption | exact upd_same | (refine Eq.trans (upd_ne ?ne) ?hh; (case hh => walk_at "hp"); (case ne => walk_at "ne")) | (refine Adv.get' (by assumption) ?hh ?nn; (case hh => walk_at "hp"); (case nn => walk_at "nm")))
local macro_rules | `(tactic| walk_at "tp") => `(tactic| first | assumption | exact Tp.adv (by walk_at "tp") (by assumption) | exact Tp.adv (by walk_at "tp") (Adv.nil (by assumption)))
local macro_rules | `(tactic| walk_at "sq") => `(tactic| first | assumption | exact Tp.sq (by assumption) (by walk_at "tp") | exact SqT.of (by walk_at "hp"))
local macro_rules | `(tactic| walk_at "at") => `(tactic| first | exact atI_nat (j := 0) rfl | exact atI_nat (j := 1) rfl | exact atI_nat (j := 2) rfl | exact atI_nat (j := 3) rfl | exact atI_nat (by assumption) | (rw [Int.zero_add]; exact atI_nat (by assumption)))
local macro_rules | `(tactic| walk_at "bb") => `(tactic| first | assumption | decide | exact rfl)
local macro_rules | `(tactic| walk_at "ci") => `(tactic| first | omega | (dsimp only; omega) | (unfold CDiv; omega) | (unfold CMul; omega))
local macro_rules | `(tactic| walk_at "rd1") => `(tactic| first
  | with_reducible refine rd_c ?_
  | ((with_reducible refine' rd_var ?rh ?_); (case rh => exact rfl))
  | with_reducible refine rd_op ?_
  | with_reducible refine rd_seq ?_
  | with_reducible refine rd_asg ?_
  | with_reducible refine rd_gname ?_
  | with_reducible refine rd_ifS ?_
  | with_reducible refine rd_test ?_
  | with_reducible refine rd_tB ?_
  | with_reducible refine rd_blP ?_
  | ((with_reducible refine' iteY ?rh ?_); (case rh => walk_at "bb"))
  | ((with_reducible refine' iteN ?rh ?_); (case rh => walk_at "bb"))
  | with_reducible refine rd_ret ?_
  | with_reducible refine rd_nx ?_
  | ((with_reducible refine' rd_eq ?rh ?_); (case rh => exact rfl))
  | ((with_reducible refine' rd_ne ?rh ?_); (case rh => exact rfl))
  | with_reducible refine rd_add ?_
  | with_reducible refine rd_sub ?_
  | with_reducible refine rd_i0 ?_
  | with_reducible refine rd_and ?_
  | with_reducible refine rd_or ?_
  | with_reducible refine rd_not ?_
  | with_reducible refine rd_andV ?_
  | with_reducible refine rd_orV ?_
  | with_reducible refine rd_notV ?_
  | with_reducible refine rd_ifE ?_
  | with_reducible refine rd_isN ?_
  | with_reducible refine rd_notN ?_
  | with_reducible refine rd_cons ?_
  | with_reducible refine rd_nil ?_
  | with_reducible refine rd_tup ?_
  | with_reducible refine rd_lst ?_
  | with_reducible refine rd_call ?_
  | with_reducible refine rd_cb ?_
  | with_reducible refine rd_meth ?_
  | with_reducible refine rd_callS ?_
  | with_reducible refine rd_make ?_
  | with_reducible refine rd_rfl ?_
  | with_reducible refine rd_fld ?_
  | with_reducible refine rd_drop ?_
  | with_reducible refine rd_gsub ?_
  | with_reducible refine rd_gcons ?_
  | with_reducible refine rd_gnil ?_
  | with_reducible refine rd_par ?_
  | with_reducible refine rd_two ?_
  | with_reducible refine rd_par3 ?_
  | with_reducible refine rd_three ?_
  | with_reducible refine rd_int1 ?_
  | ((with_reducible refine' rd_i ?rh ?_); (case rh => walk_at "ci"))
  | with_reducible refine rd_part ?_
  | with_reducible refine rd_nopart ?_
  | with_reducible refine rd_int ?_
  | with_reducible refine rd_sl ?_
  | with_reducible refine rd_bm ?_
  | with_reducible refine rd_bm0 ?_
  | with_reducible refine rd_dgetT ?_
  | with_reducible refine rd_din ?_
  | with_reducible refine rd_dnin ?_
  | with_reducible refine rd_un ?_
  | ((with_reducible refine' rd_ixL ?rh ?re ?_); (case rh => walk_at "hp"); (case re => walk_at "at"))
  | ((with_reducible refine' rd_ixT ?rh ?re ?_); (case rh => walk_at "sq"); (case re => walk_at "at"))
  | ((with_reducible refine' rd_lenT ?rh ?_); (case rh => walk_at "sq"))
  | ((with_reducible refine' rd_tyL ?rh ?_); (case rh => walk_at "hp"))
  | ((with_reducible refine' rd_len ?rh ?_); (case rh => walk_at "hp"))
  | with_reducible refine rd_u ?_
  | ((with_reducible refine' rd_slL ?rh ?_); (case rh => walk_at "hp"))
  | with_reducible refine rd_for ?_
  | with_reducible refine rd_rng1 ?_
  | with_reducible refine rd_rng2 ?_
  | with_reducible refine rd_ints1 ?_
  | with_reducible refine rd_ints2 ?_
  | with_reducible refine rd_retN ?_)
local macro_rules | `(tactic| walk_at "rd") => `(tactic| repeat walk_at "rd1")
section
variable [KW]
variable {P : Program} {w : World} {K : PySem.W.Frag} {mg : Str → Option Value} {base : Heap}
/-! ### _law_heap, _law_formula -/
def spForm (m : Nat) : Sp := fun vs H Q _ => TreeP (fun many => 2 * many.toNat + 3) m vs H Q
/-- the words that are drawn -/
def wordOk (bx : Bool) (wd : Str) : Prop := (∃ o : Op3, wd = o.str) ∨ (wd = "box" ∧ bx = true)
theorem nV_snoc (rs : List Nat) (r : Nat) : nV rs ++ [V.int (r : Nat)] = nV (rs ++ [r]) := by unfold nV; rw [List.map_append]; rfl
theorem nV_len (rs : List Nat) : (nV rs).length = rs.length := by unfold nV; rw [List.length_map]
theorem nV_at {rs : List Nat} {i : Nat} (h : i < rs.length) : (nV rs)[i]? = some (.int (rs[i] : Nat)) := by unfold nV; rw [List.getElem?_map, List.getElem?_eq_getElem h]; rfl
theorem ok_law_heap (A : All K mg w) {m : Nat} : FnOk P w K mg base CX0 3 A.law_heap.f A.law_heap.fd ["stream", "book", "letters", "many", "boxed"] (spForm m) := by
  refine A.law_heap.F.ok sc_law_heap (fun vs H Q E h => ?_) (fun cdv Ar outer s H vs Q E hr h => ?_)
  · obtain ⟨M, s, bk, b0, b1, bx, ns, letters, many, rfl, _⟩ := h.ex
    rfl
  · obtain ⟨M, s, bk, b0, b1, bx, ns, letters, many, rfl, D, l0, l1, m0, mm, m1, hl, q⟩ := h.ex
    refine ⟨_, (pss_cons (ps_setLc (i := 6) (own := [("k", 5)]) (g := gName 5) rfl sc_law_heap.nd rfl rfl (sw_true rfl rfl rfl (by decide +kernel)) (pi_range1 rfl A.T.range (pa_cons pe_int pa_nil)) (blkOk_by (own := [("k", 5)]) (N := ["stream", "book", "letters", "many", "boxed", "k", "rows", "j", "other", "word"]) (sc := defScope s_law_heap) (by decide +kernel)) (fun _ _ _ _ _ => pg_name (i := 5) sc_law_heap.nd rfl (Or.inl rfl)) (fun _ _ _ _ _ => pts_nil) (fun _ _ _ _ _ => (pe_call (ok_law_leaf A) (hr.mono (by omega)) rfl A.law_leaf.m A.law_leaf.F.kp A.law_leaf.b .nil pass0 (pa_cons (pv 0) (pa_cons (pv 1) (pa_cons (pv 2) pa_nil))))))
  (pss_cons (ps_for PassesOwn.never rfl (pi_range1 rfl A.T.range (pa_cons (pv 3) pa_nil)) (pg_name (i := 5) sc_law_heap.nd rfl (Or.inl rfl))
    (pss_cons (ps_set (i := 7) sc_law_heap.nd rfl (Or.inl rfl) (pe_ix ix_list (pv 6) (pe_op op_sub (pe_op op_sub (pe_callB call_len_seq (by rfl) A.T.len PySem.boot_len (pa_cons (pv 6) pa_nil)) pe_int) (pe_call (ok_law_next A) (hr.mono (by omega)) rfl A.law_next.m A.law_next.F.kp A.law_next.b .nil pass0 (pa_cons (pv 0) (pa_cons pe_int pa_nil)))) (fun _ _ => rfl)))
  (pss_cons (ps_set (i := 8) sc_law_heap.nd rfl (Or.inl rfl) (pe_call (ok_law_pick A) (hr.mono (by omega)) rfl A.law_pick.m A.law_pick.F.kp A.law_pick.b .nil pass0 (pa_cons (pv 0) (pa_cons (pv 6) pa_nil))))
  (pss_cut (ps_set (i := 9) sc_law_heap.nd rfl (Or.inl rfl) (pe_call (ok_law_pick A) (hr.mono (by omega)) rfl A.law_pick.m A.law_pick.F.kp A.law_pick.b .nil pass0 (pa_cons (pv 0) (pa_cons (pe_ifExp (pt_val (pv 4)) (pe_tup (pa_cons pe_str (pa_cons pe_str (pa_cons pe_str (pa_cons pe_str (pa_cons pe_str (pa_cons pe_str pa_nil))))))) (pe_tup (pa_cons pe_str (pa_cons pe_str (pa_cons pe_str (pa_cons pe_str pa_nil)))))) pa_nil))))
  (pss_one (ps_if (pt_cmpR op_eq (pv 9) pe_str (nomark _))
    (pss_one (ps_expr (pe_bm PySem.F.plainAttrs_list PySem.F.slot_list_append PySem.F.type_list_append mt_append (pv 6) (pa_cons (pe_call (ok_law_row A) (hr.mono (by omega)) rfl A.law_row.m A.law_row.F.kp A.law_row.b .nil pass0 (pa_cons (pv 1) (pa_cons (pe_tup (pa_cons pe_str (pa_cons (pv 7) pa_nil))) pa_nil))) pa_nil))))
    (pss_one (ps_expr (pe_bm PySem.F.plainAttrs_list PySem.F.slot_list_append PySem.F.type_list_append mt_append (pv 6) (pa_cons (pe_call (ok_law_row A) (hr.mono (by omega)) rfl A.law_row.m A.law_row.F.kp A.law_row.b .nil pass0 (pa_cons (pv 1) (pa_cons (pe_ifExp (pt_cmpR op_eq (pe_call (ok_law_next A) (hr.mono (by omega)) rfl A.law_next.m A.law_next.F.kp A.law_next.b .nil pass0 (pa_cons (pv 0) (pa_cons pe_int pa_nil))) pe_int (nomark _)) (pe_tup (pa_cons (pv 9) (pa_cons (pv 8) (pa_cons (pv 7) pa_nil)))) (pe_tup (pa_cons (pv 9) (pa_cons (pv 7) (pa_cons (pv 8) pa_nil))))) pa_nil))) pa_nil))))))))))
  (pss_one (ps_ret (pe_ix ix_list (pv 6) (pe_op op_sub (pe_callB call_len_seq (by rfl) A.T.len PySem.boot_len (pa_cons (pv 6) pa_nil)) pe_int) (fun _ _ => rfl)))))), ?_⟩
    -- rows = [leaf, leaf, leaf]
    refine ⟨3, rfl, by decide, by decide, fun d nd => ?_⟩
    obtain ⟨dM, ds, dk, d0, d1⟩ := D.free nd
    have dn : d ∉ [s, b0, b1] := by simp [ds, d0, d1]
    refine lc_range (lo := 0) (n := (3 : Int).toNat) (fun i H' => ∃ (ns' : List Nd) (rs : List Nat), ns <+: ns' ∧ ns'.length ≤ ns.length + i ∧ Dw (d :: M) H' s bk b0 b1 bx ns' ∧ Adv [s, b0, b1] H H' ∧ H' d = some (.lst (nV rs)) ∧ rs.length = i ∧ ∀ r ∈ rs, r < ns'.length)
      ⟨ns, [], List.prefix_refl _, Nat.le_refl _, D.fresh nd, Adv.new nd, upd_same, rfl, by simp⟩ ?_ ?_
    · rintro i H' hi ⟨ns', rs, h1, h2, D1, a1, hd, hrl, hrs⟩
      have hi3 : i < 3 := hi
      have hg := h1.length_le
      refine ⟨rfl, yes_if ?_⟩
      refine iteY rfl ?_
      walk_at "rd"
      refine ⟨⟨d :: M, s, bk, b0, b1, bx, ns', letters, rfl, D1, l0, l1, by omega, fun r ns2 H2 x => ?_⟩⟩
      have hd2 := x.a _ _ dn hd
      have xl := x.le
      have xg := x.ge
      have xt := x.lt
      refine ⟨_, hd2, by rw [nV_len, sizeLine_eq]; omega, ns2, rs ++ [r], h1.trans x.pre, by omega, x.D.put (by simp) ds d0 d1, (a1.trans x.a).mut nd, by rw [upd_same, nV_snoc], by rw [List.length_append, List.length_singleton, hrl], ?_⟩
      intro y hy
      rcases List.mem_append.mp hy with hy | hy
      · have := hrs y hy; omega
      · rw [List.mem_singleton.mp hy]; exact xt
    · rintro H1 ⟨ns1, rs1, h1, h2, D1, a1, hd1, hrl1, hrs1⟩
      have h23 : (3 : Int).toNat = 3 := rfl
      -- for k in range(many)
      refine ⟨_, rfl, many, rfl, by omega, by omega, ?_⟩
      refine for_range (lo := 0) (n := many.toNat) (fun i σ' H' => ∃ (ns' : List Nd) (rs : List Nat) (x5 x7 x8 x9 : Option V), σ' = [some (.ref s), some (.ref bk), some (.int letters), some (.int many), some (.bl bx), x5, some (.ref d), x7, x8, x9] ∧ ns <+: ns' ∧ ns'.length ≤ ns.length + 3 + i ∧ Dw (d :: M) H' s bk b0 b1 bx ns' ∧ Adv [s, b0, b1] H H' ∧ H' d = some (.lst (nV rs)) ∧ rs.length = 3 + i ∧ ∀ r ∈ rs, r < ns'.length)
        ⟨ns1, rs1, none, none, none, none, rfl, h1, by omega, D1, a1, hd1, by omega, hrs1⟩ ?_ ?_
      · rintro i σ' H' hi ⟨ns', rs, x5, x7, x8, x9, rfl, h1, h2, D1, a1, hd, hrl, hrs⟩
        have hg := h1.length_le
        walk_at "rd"
        refine ⟨s, 3, d :: M, rfl, D1.str, by decide, by decide, fun e H2 e0 e1 hs2 a2 => ?_⟩
        have D2 := D1.next a2 hs2
        have hd2 := a2 _ _ (by simpa using ds) hd
        obtain ⟨t, ht⟩ : ∃ t : Nat, ((nV rs).length : Int) - 1 - e = (t : Int) := ⟨(((nV rs).length : Int) - 1 - e).toNat, by rw [nV_len]; omega⟩
        have htl : t < rs.length := by rw [nV_len] at ht; omega
        have hrt := hrs _ (List.getElem_mem htl)
        have hg2 := nV_at htl
        refine rd_i0 ?_
        rw [ht]
        walk_at "rd"
        refine ⟨s, d, nV rs, d :: M, rfl, hs2, .inl hd2, ds, by intro z; have := congrArg List.length z; rw [nV_len, List.length_nil] at this; omega, by rw [nV_len]; omega, fun ov H3 hov hs3 a3 => ?_⟩
        obtain ⟨o, ho, rfl⟩ := List.mem_map.mp hov
        have hol := hrs o ho
        have D3 := D2.next a3 hs3
        have hd3 := a3 _ _ (by simpa using ds) hd2
        have a13 : Adv [s, b0, b1] H H3 := (a1.trans (a_s a2)).trans (a_s a3)
        walk_at "rd"
        refine ⟨fun σ' H' => ∃ wd, σ' = [some (.ref s), some (.ref bk), some (.int letters), some (.int many), some (.bl bx), some (.int (0 + (i : Nat))), some (.ref d), some (.int (rs[t] : Nat)), some (.int (o : Nat)), some (.str wd)] ∧ wordOk bx wd ∧ Dw (d :: M) H' s bk b0 b1 bx ns' ∧ Adv [s, b0, b1] H H' ∧ H' d = some (.lst (nV rs)), ?_, ?_⟩
        · have word : ∀ (ws : List Str) (p : Addr) (Q' : VK), H3 p = none → ws ≠ [] → ws.length ≤ 10 → (∀ x ∈ ws, wordOk bx x) → (∀ wd H', wordOk bx wd → Dw (d :: M) H' s bk b0 b1 bx ns' → Adv [s, b0, b1] H H' → H' d = some (.lst (nV rs)) → Q' (.str wd) H') → spPick [.ref s, .ref p] (upd H3 p (.tup (ws.map V.str))) Q' E0 := by
            intro ws p Q' np hne hwl hok k
            have D4 := D3.same (Adv.new (o := .tup (ws.map V.str)) np)
            refine ⟨s, p, ws.map V.str, d :: M, rfl, D4.str, .inr upd_same, (D3.free np).2.1, by simpa using hne, by rw [List.length_map]; omega, fun x H5 hx hs5 a5 => ?_⟩
            obtain ⟨wd, hwd, rfl⟩ := List.mem_map.mp hx
            have ndp : d ≠ p := ne_of_none hd3 np
            exact k wd H5 (hok wd hwd) (D4.next a5 hs5) ((a13.newT np).trans (a_s a5)) (a5 _ _ (by simpa using ds) (by rw [upd_ne ndp]; exact hd3))
          cases bx with
          | true =>
            walk_at "rd"
            refine ⟨by show 6 ≤ sizeLine; decide, fun p np => ?_⟩
            walk_at "rd"
            exact word ["and", "or", "if", "if", "box", "box"] p _ np (by simp) (by simp) (by simp; exact ⟨.inl ⟨.and, rfl⟩, .inl ⟨.or, rfl⟩, .inl ⟨.imp, rfl⟩, .inr ⟨rfl, rfl⟩⟩) fun wd H' h1 h2 h3 h4 => ⟨wd, rfl, h1, h2, h3, h4⟩
          | false =>
            walk_at "rd"
            refine ⟨by show 4 ≤ sizeLine; decide, fun p np => ?_⟩
            walk_at "rd"
            exact word ["and", "or", "if", "if"] p _ np (by simp) (by simp) (by simp; exact ⟨.inl ⟨.and, rfl⟩, .inl ⟨.or, rfl⟩, .inl ⟨.imp, rfl⟩⟩) fun wd H' h1 h2 h3 h4 => ⟨wd, rfl, h1, h2, h3, h4⟩
        · rintro σ' H4 ⟨wd, rfl, hwd, D4, a4, hd4⟩
          have fin : ∀ {H5 : Hp} {n : Nd} {p : Addr} {σ' : L2.St} {Q' : L2.St → Hp → Prop}, Dw (d :: M) H5 s bk b0 b1 bx ns' → Adv [s, b0, b1] H H5 → H5 d = some (.lst (nV rs)) → H5 p = none → n.ok bx ns'.length = true →
              (∀ (ns2 : List Nd) (r : Nat) H6, ns <+: ns2 → ns2.length ≤ ns.length + 3 + (i + 1) → Dw (d :: M) (upd H6 d (.lst (nV (rs ++ [r])))) s bk b0 b1 bx ns2 → Adv [s, b0, b1] H (upd H6 d (.lst (nV (rs ++ [r])))) → (∀ y ∈ rs ++ [r], y < ns2.length) → Q' σ' (upd H6 d (.lst (nV (rs ++ [r]))))) →
              RowP [.ref bk, .ref p] (upd H5 p (.tup (n.keys.map kV))) fun x H1 => rAppend (.ref d) [x] H1 fun _ H2 => Q' σ' H2 := by
            intro H5 n p σ' Q' D5 a5 hd5 np hn k
            refine row_dn (c := 1) n D5 np hn (by omega) (List.prefix_refl _) (by omega) (Adv.refl _ _) fun r ns2 H6 x => ?_
            have hd6 := x.a _ _ dn hd5
            have xl := x.le
            have xg := x.ge
            have xt := x.lt
            refine rd_app hd6 (by rw [nV_len, sizeLine_eq]; omega) ?_
            rw [nV_snoc]
            exact k ns2 r H6 (h1.trans x.pre) (by omega) (x.D.put (by simp) ds d0 d1) ((a5.trans x.a).mut nd) fun y hy => by
              rcases List.mem_append.mp hy with hy | hy
              · have := hrs y hy; omega
              · rw [List.mem_singleton.mp hy]; exact xt
          rcases hwd with ⟨op, rfl⟩ | ⟨rfl, hbx⟩
          · walk_at "rd"
            refine iteN (by cases op <;> decide) ?_
            walk_at "rd"
            refine ⟨s, 2, d :: M, rfl, D4.str, by decide, by decide, fun e2 H5 g0 g1 hs5 a5 => ?_⟩
            have D5 := D4.next a5 hs5
            have hd5 := a5 _ _ (by simpa using ds) hd4
            walk_at "rd"
            refine iteB (fun _ => ?_) (fun _ => ?_)
            · walk_at "rd"
              refine ⟨by show 3 ≤ sizeLine; decide, fun p np => ?_⟩
              walk_at "rd"
              exact fin (n := .bin op o rs[t]) D5 (a4.trans (a_s a5)) hd5 np (by simp only [Nd.ok, Bool.and_eq_true, decide_eq_true_eq]; omega) fun ns2 r H6 k1 k2 k3 k4 k5 => ⟨ns2, rs ++ [r], _, _, _, _, rfl, k1, k2, k3, k4, upd_same, by rw [List.length_append, List.length_singleton]; omega, k5⟩
            · walk_at "rd"
              refine ⟨by show 3 ≤ sizeLine; decide, fun p np => ?_⟩
              walk_at "rd"
              exact fin (n := .bin op rs[t] o) D5 (a4.trans (a_s a5)) hd5 np (by simp only [Nd.ok, Bool.and_eq_true, decide_eq_true_eq]; omega) fun ns2 r H6 k1 k2 k3 k4 k5 => ⟨ns2, rs ++ [r], _, _, _, _, rfl, k1, k2, k3, k4, upd_same, by rw [List.length_append, List.length_singleton]; omega, k5⟩
          · walk_at "rd"
            refine ⟨by show 2 ≤ sizeLine; decide, fun p np => ?_⟩
            walk_at "rd"
            exact fin (n := .box rs[t]) D4 a4 hd4 np (by simp only [Nd.ok, Bool.and_eq_true, decide_eq_true_eq]; exact ⟨hbx, hrt⟩) fun ns2 r H6 k1 k2 k3 k4 k5 => ⟨ns2, rs ++ [r], _, _, _, _, rfl, k1, k2, k3, k4, upd_same, by rw [List.length_append, List.length_singleton]; omega, k5⟩
      · rintro σ' H' ⟨ns', rs, x5, x7, x8, x9, rfl, h1, h2, D1, a1, hd, hrl, hrs⟩
        obtain ⟨e, he⟩ : ∃ e : Nat, ((nV rs).length : Int) - 1 = (e : Int) := ⟨(nV rs).length - 1, by rw [nV_len]; omega⟩
        have hel : e < rs.length := by rw [nV_len] at he; omega
        have hg := nV_at hel
        walk_at "rd"
        rw [he]
        walk_at "rd"
        exact q rs[e] ns' H' ⟨h1, hrs _ (List.getElem_mem hel), by omega, D1.less (by simp +contextual) D.ms D.B.m0 D.B.m1, a1⟩
theorem ok_law_formula (A : All K mg w) (m : Nat) : FnOk P w K mg base CX0 (m + 4) A.law_formula.f A.law_formula.fd ["stream", "book", "letters", "many", "boxed"] (spForm m) := by
  refine A.law_formula.F.ok sc_law_formula (fun vs H Q E h => ?_) (fun cdv Ar outer s H vs Q E hr h => ?_)
  · obtain ⟨M, s, bk, b0, b1, bx, ns, letters, many, rfl, _⟩ := h.ex
    rfl
  · obtain ⟨M, s, bk, b0, b1, bx, ns, letters, many, rfl, D, l0, l1, m0, mm, m1, hl, q⟩ := h.ex
    refine ⟨_, (pss_cons (ps_if (pt_cmpR op_eq (pe_call (ok_law_next A) (hr.mono (by omega)) rfl A.law_next.m A.law_next.F.kp A.law_next.b .nil pass0 (pa_cons (pv 0) (pa_cons pe_int pa_nil))) pe_int (nomark _))
    (pss_one (ps_ret (pe_call (ok_law_tree A m) (hr.mono (by omega)) rfl A.law_tree.m A.law_tree.F.kp A.law_tree.b .nil pass0 (pa_cons (pv 0) (pa_cons (pv 1) (pa_cons (pv 2) (pa_cons (pv 3) (pa_cons (pv 4) pa_nil))))))))
    pss_nil)
  (pss_one (ps_ret (pe_call (ok_law_heap A (m := m)) (hr.mono (by omega)) rfl A.law_heap.m A.law_heap.F.kp A.law_heap.b .nil pass0 (pa_cons (pv 0) (pa_cons (pv 1) (pa_cons (pv 2) (pa_cons (pv 3) (pa_cons (pv 4) pa_nil))))))))), ?_⟩
    walk_at "rd"
    refine ⟨s, 2, M, rfl, D.str, by decide, by decide, fun d H1 d0 d1 hs1 a1 => ?_⟩
    have D1 := D.next a1 hs1
    walk_at "rd"
    refine iteB (fun e => ?_) (fun e => ?_)
    · walk_at "rd"
      exact ⟨⟨M, s, bk, b0, b1, bx, ns, letters, many, rfl, D1, l0, l1, m0, mm, m1, hl, fun r ns' H' x => q r ns' H' ⟨x.pre, x.lt, by have := x.le; omega, x.D, (a_s a1).trans x.a⟩⟩⟩
    · walk_at "rd"
      exact ⟨⟨M, s, bk, b0, b1, bx, ns, letters, many, rfl, D1, l0, l1, m0, mm, m1, hl, fun r ns' H' x => q r ns' H' ⟨x.pre, x.lt, x.le, x.D, (a_s a1).trans x.a⟩⟩⟩
end
end K60

set_option Elab.async false
set_option linter.all false
set_option maxRecDepth 100000
set_option maxHeartbeats 400000
namespace K60
open PySem PySem.Spec PyProof.Rows L2 LL
open C8 (pss_cut)
local macro_rules | `(tactic| walk_at "ne") => `(tactic| first | assumption | (apply Ne.symm; assumption) | exact ne_of_none (by walk_at "hp") (by assumption) | exact (ne_of_none (by walk_at "hp") (by assumption)).symm)
local macro_rules | `(tactic| walk_at "nm") => `(tactic| first | assumption | exact notin0 | exact notin1 (by walk_at "ne") | exact notin2 (by walk_at "ne") (by walk_at "ne"))
local macro_rules | `(tactic| walk_at "hp") => `(tactic| first | assumption | exact upd_same | (refine Eq.trans (upd_ne ?ne) ?hh; (case hh => walk_at "hp"); (case ne => walk_at "ne")) | (refine Adv.get' (by assumption) ?hh ?nn; (case hh => walk_at "hp"); (case nn => walk_at "nm")))
local macro_rules | `(tactic| walk_at "tp") => `(tactic| first | assumption | exact Tp.adv (by walk_at "tp") (by assumption) | exact Tp.adv (by walk_at "tp") (Adv.nil (by assumption)))
local macro_rules | `(tactic| walk_at "sq") => `(tactic| first | assumption | exact Tp.sq (by assumption) (by walk_at "tp") | exact SqT.of (by walk_at "hp"))
local macro_rules | `(tactic| walk_at "at") => `(tactic| first | exact atI_nat (j := 0) rfl | exact atI_nat (j := 1) rfl | exact atI_nat (j := 2) rfl | exact atI_nat (j := 3) rfl | exact atI_nat (by assumption) | (rw [Int.zero_add]; exact atI_nat (by assumption)))
local macro_rules | `(tactic| walk_at "bb") => `(tactic| first | assumption | decide | exact rfl)
local macro_rules | `(tactic| walk_at "ci") => `(tactic| first | omega | (dsimp only; omega) | (unfold CDiv; omega) | (unfold CMul; omega))
local macro_rules | `(tactic| walk_at "rd1") => `(tactic| first
  | with_reducible refine rd_c ?_
  | ((with_reducible refine' rd_var ?rh ?_); (case rh => exact rfl))
  | with_reducible refine rd_op ?_
  | with_reducible refine rd_seq ?_
  | with_reducible refine rd_asg ?_
  | with_reducible refine rd_gname ?_
  | with_reducible refine rd_ifS ?_
  | with_reducible refine rd_test ?_
  | with_reducible refine rd_tB ?_
  | with_reducible refine rd_blP ?_
  | ((with_reducible refine' iteY ?rh ?_); (case rh => walk_at "bb"))
  | ((with_reducible refine' iteN ?rh ?_); (case rh => walk_at "bb"))
  | with_reducible refine rd_ret ?_
  | with_reducible refine rd_nx ?_
  | ((with_reducible refine' rd_eq ?rh ?_); (case rh => exact rfl))
  | ((with_reducible refine' rd_ne ?rh ?_); (case rh => exact rfl))
  | with_reducible refine rd_add ?_
  | with_reducible refine rd_sub ?_
  | with_reducible refine rd_i0 ?_
  | with_reducible refine rd_and ?_
  | with_reducible refine rd_or ?_
  | with_reducible refine rd_not ?_
  | with_reducible refine rd_andV ?_
  | with_reducible refine rd_orV ?_
  | with_reducible refine rd_notV ?_
  | with_reducible refine rd_ifE ?_
  | with_reducible refine rd_isN ?_
  | with_reducible refine rd_notN ?_
  | with_reducible refine rd_cons ?_
  | with_reducible refine rd_nil ?_
  | with_reducible refine rd_tup ?_
  | with_reducible refine rd_lst ?_
  | with_reducible refine rd_call ?_
  | with_reducible refine rd_cb ?_
  | with_reducible refine rd_meth ?_
  | with_reducible refine rd_callS ?_
  | with_reducible refine rd_make ?_
  | with_reducible refine rd_rfl ?_
  | with_reducible refine rd_fld ?_
  | with_reducible refine rd_drop ?_
  | with_reducible refine rd_gsub ?_
  | with_reducible refine rd_gcons ?_
  | with_reducible refine rd_gnil ?_
  | with_reducible refine rd_par ?_
  | with_reducible refine rd_two ?_
  | with_reducible refine rd_par3 ?_
  | with_reducible refine rd_three ?_
  | with_reducible refine rd_int1 ?_
  | ((with_reducible refine' rd_i ?rh ?_); (case rh => walk_at "ci"))
  | with_reducible refine rd_part ?_
  | with_reducible refine rd_nopart ?_
  | with_reducible refine rd_int ?_
  | with_reducible refine rd_sl ?_
  | with_reducible refine rd_bm ?_
  | with_reducible refine rd_bm0 ?_
  | with_reducible refine rd_dgetT ?_
  | with_reducible refine rd_din ?_
  | with_reducible refine rd_dnin ?_
  | with_reducible refine rd_un ?_
  | ((with_reducible refine' rd_ixL ?rh ?re ?_); (case rh => walk_at "hp"); (case re => walk_at "at"))
  | ((with_reducible refine' rd_ixT ?rh ?re ?_); (case rh => walk_at "sq"); (case re => walk_at "at"))
  | ((with_reducible refine' rd_lenT ?rh ?_); (case rh => walk_at "sq"))
  | ((with_reducible refine' rd_tyL ?rh ?_); (case rh => walk_at "hp"))
  | ((with_reducible refine' rd_len ?rh ?_); (case rh => walk_at "hp"))
  | with_reducible refine rd_u ?_
  | ((with_reducible refine' rd_slL ?rh ?_); (case rh => walk_at "hp"))
  | with_reducible refine rd_for ?_
  | with_reducible refine rd_rng1 ?_
  | with_reducible refine rd_rng2 ?_
  | with_reducible refine rd_ints1 ?_
  | with_reducible refine rd_ints2 ?_
  | with_reducible refine rd_retN ?_)
local macro_rules | `(tactic| walk_at "rd") => `(tactic| repeat walk_at "rd1")
section
variable [KW]
variable {P : Program} {w : World} {K : PySem.W.Frag} {mg : Str → Option Value} {base : Heap}
/-! ### _law_long -/
structure LongP (vs : List V) (H : Hp) (Q : VK) : Prop where
  ex : ∃ (M : List Addr) (s wt : Addr) (many : Int) (ws : List Str), vs = [.ref s, .int many, .ref wt] ∧ StrAt M H s ∧ s ∈ M ∧ (∀ b ∈ M, H b ≠ none) ∧ H wt = some (.tup (ws.map V.str)) ∧ ws ≠ [] ∧ ws.length ≤ 10 ∧ 5 ≤ many ∧ many ≤ 5001 ∧ wt ≠ s ∧
    ∀ L rs H', H L = none → H' L = some (.lst rs) → RwDs M H' rs → rs.length = many.toNat → StrAt M H' s → Adv [s] H H' → Q (.ref L) H'
def spLong : Sp := fun vs H Q _ => LongP vs H Q
theorem ok_law_long (A : All K mg w) : FnOk P w K mg base CX0 3 A.law_long.f A.law_long.fd ["stream", "many", "words"] spLong := by
  refine A.law_long.F.ok sc_law_long (fun vs H Q E h => ?_) (fun cdv Ar outer s H vs Q E hr h => ?_)
  · obtain ⟨M, s, wt, many, ws, rfl, _⟩ := h.ex
    rfl
  · obtain ⟨M, s, wt, many, ws, rfl, hs, ms, hal, hwt, hwn, hwl, m0, m1, nws, q⟩ := h.ex
    refine ⟨_, (pss_cons (ps_par3 (i := 3) (j := 4) (l := 5) (by rfl) sc_law_long.nd rfl rfl rfl (by decide) (by decide) (by decide) rfl rfl rfl (pa_cons (pe_call (ok_law_from A) (hr.mono (by omega)) rfl A.law_from.m A.law_from.F.kp A.law_from.b .nil pass0 (pa_cons (pv 0) (pa_cons pe_int (pa_cons pe_int pa_nil)))) (pa_cons (pe_call (ok_law_from A) (hr.mono (by omega)) rfl A.law_from.m A.law_from.F.kp A.law_from.b .nil pass0 (pa_cons (pv 0) (pa_cons pe_int (pa_cons pe_int pa_nil)))) (pa_cons (pe_call (ok_law_next A) (hr.mono (by omega)) rfl A.law_next.m A.law_next.F.kp A.law_next.b .nil pass0 (pa_cons (pv 0) (pa_cons pe_int pa_nil))) pa_nil))) (by rfl))
  (pss_cons (ps_set (i := 6) sc_law_long.nd rfl (Or.inl rfl) (pe_lst (pa_cons (pe_tup (pa_cons pe_str (pa_cons pe_int pa_nil))) (pa_cons (pe_tup (pa_cons pe_str (pa_cons pe_int pa_nil))) (pa_cons (pe_tup (pa_cons pe_str pa_nil)) (pa_cons (pe_tup (pa_cons pe_str (pa_cons pe_int pa_nil))) (pa_cons (pe_tup (pa_cons pe_str (pa_cons pe_int pa_nil))) pa_nil)))))))
  (pss_cons (ps_for PassesOwn.never rfl (pi_range2 rfl A.T.range (pa_cons pe_int (pa_cons (pv 1) pa_nil))) (pg_name (i := 7) sc_law_long.nd rfl (Or.inl rfl))
    (pss_cons (ps_set (i := 8) sc_law_long.nd rfl (Or.inl rfl) (pe_ix ix_tup (pv 2) (pe_op op_mod (pe_callTy call_int1 (by rfl) A.T.int (by decide +kernel) (pa_cons (pe_op op_add (pe_op op_mul (pv 3) (pv 7)) (pe_op op_fdiv (pe_op op_mul (pv 7) (pv 7)) pe_int)) pa_nil)) (pe_callB call_len_seq (by rfl) A.T.len PySem.boot_len (pa_cons (pv 2) pa_nil))) (fun _ _ => rfl)))
  (pss_cons (ps_set (i := 9) sc_law_long.nd rfl (Or.inl rfl) (pe_op op_mod (pe_callTy call_int1 (by rfl) A.T.int (by decide +kernel) (pa_cons (pe_op op_add (pe_op op_mul (pv 4) (pv 7)) (pv 5)) pa_nil)) (pv 7)))
  (pss_one (ps_if (pt_cmpR op_eq (pv 8) pe_str (nomark _))
    (pss_one (ps_expr (pe_bm PySem.F.plainAttrs_list PySem.F.slot_list_append PySem.F.type_list_append mt_append (pv 6) (pa_cons (pe_tup (pa_cons (pv 8) (pa_cons (pe_op op_sub (pv 7) pe_int) pa_nil))) pa_nil))))
    (pss_one (ps_expr (pe_bm PySem.F.plainAttrs_list PySem.F.slot_list_append PySem.F.type_list_append mt_append (pv 6) (pa_cons (pe_ifExp (pt_cmpR op_eq (pe_op op_mod (pe_callTy call_int1 (by rfl) A.T.int (by decide +kernel) (pa_cons (pe_op op_add (pv 7) (pv 3)) pa_nil)) pe_int) pe_int (nomark _)) (pe_tup (pa_cons (pv 8) (pa_cons (pe_op op_sub (pv 7) pe_int) (pa_cons (pv 9) pa_nil)))) (pe_tup (pa_cons (pv 8) (pa_cons (pv 9) (pa_cons (pe_op op_sub (pv 7) pe_int) pa_nil))))) pa_nil)))))))))
  (pss_one (ps_ret (pv 6)))))), ?_⟩
    walk_at "rd"
    refine ⟨s, 1, 996, M, rfl, hs, by decide, by decide, fun a H1 a0 a1 hs1 g1 => ?_⟩
    walk_at "rd"
    refine ⟨s, 1, 996, M, rfl, hs1, by decide, by decide, fun b H2 b0 b1 hs2 g2 => ?_⟩
    walk_at "rd"
    refine ⟨s, 997, M, rfl, hs2, by decide, by decide, fun c H3 c0 c1 hs3 g3 => ?_⟩
    have g03 : Adv [s] H H3 := (g1.trans g2).trans g3
    have al3 : ∀ b ∈ M, H3 b ≠ none := alloc_adv hal g03 (by simpa using hs3.here)
    have hwt3 := g03 _ _ (by simpa using nws) hwt
    walk_at "rd"
    refine ⟨by show 2 ≤ sizeLine; decide, fun p1 n1 => ?_⟩
    walk_at "rd"
    refine ⟨by show 2 ≤ sizeLine; decide, fun p2 n2 => ?_⟩
    walk_at "rd"
    refine ⟨by show 1 ≤ sizeLine; decide, fun p3 n3 => ?_⟩
    walk_at "rd"
    refine ⟨by show 2 ≤ sizeLine; decide, fun p4 n4 => ?_⟩
    walk_at "rd"
    refine ⟨by show 2 ≤ sizeLine; decide, fun p5 n5 => ?_⟩
    walk_at "rd"
    refine ⟨by show 5 ≤ sizeLine; decide, fun D nD => ?_⟩
    have e1 : Adv [] H3 _ := Adv.new (o := .tup [V.str "letter", .int 3]) n1
    have i1 := rw_new (ks := [.inr "letter", .inl 3]) al3 n1 (by simp)
    have al4 := alloc_adv al3 e1 (by simp)
    have e2 : Adv [] _ _ := Adv.new (o := .tup [V.str "letter", .int 0]) n2
    have i2 := rw_new (ks := [.inr "letter", .inl 0]) al4 n2 (by simp)
    have al5 := alloc_adv al4 e2 (by simp)
    have e3 : Adv [] _ _ := Adv.new (o := .tup [V.str "no"]) n3
    have i3 := rw_new (ks := [.inr "no"]) al5 n3 (by simp)
    have al6 := alloc_adv al5 e3 (by simp)
    have e4 : Adv [] _ _ := Adv.new (o := .tup [V.str "letter", .int 7]) n4
    have i4 := rw_new (ks := [.inr "letter", .inl 7]) al6 n4 (by simp)
    have al7 := alloc_adv al6 e4 (by simp)
    have e5 : Adv [] _ _ := Adv.new (o := .tup [V.str "letter", .int 5]) n5
    have i5 := rw_new (ks := [.inr "letter", .inl 5]) al7 n5 (by simp)
    have al8 := alloc_adv al7 e5 (by simp)
    have eD : Adv [] _ _ := Adv.new (o := .lst [.ref p1, .ref p2, .ref p3, .ref p4, .ref p5]) nD
    have x5 : RwDs M _ [.ref p1, .ref p2, .ref p3, .ref p4, .ref p5] := .cons (i1.adv (Adv.nil (((e2.trans e3).trans e4).trans e5))) (.cons (i2.adv (Adv.nil ((e3.trans e4).trans e5))) (.cons (i3.adv (Adv.nil (e4.trans e5))) (.cons (i4.adv (Adv.nil e5)) (.cons i5 .nil))))
    have e15 := ((((e1.trans e2).trans e3).trans e4).trans e5)
    have nD3 : H3 D = none := e15.free (by simp) nD
    have xD : ∀ {vs : List V} {Hx : Hp}, Hx D = none → RwDs M Hx vs → RwDs (D :: M) Hx vs := fun hn x => x.fresh hn
    have eAll := e15.trans eD
    have hsD := (hs3.fresh nD3).same eAll
    have nDH : H D = none := g03.free (fun z => hs3.here (by rw [← List.mem_singleton.mp z]; exact nD3)) nD3
    walk_at "rd"
    refine ⟨⟨by omega, by omega, by omega, by omega⟩, ?_⟩
    refine for_range (lo := 5) (n := (many - 5).toNat) (fun i σ' H' => ∃ (rs : List V) (x7 x8 x9 : Option V), σ' = [some (.ref s), some (.int many), some (.ref wt), some (.int a), some (.int b), some (.int c), some (.ref D), x7, x8, x9] ∧ H' D = some (.lst rs) ∧ rs.length = 5 + i ∧ RwDs (D :: M) H' rs ∧ StrAt (D :: M) H' s ∧ Adv [] H3 H')
      ⟨_, none, none, none, rfl, upd_same, rfl, (xD nD x5).adv (Adv.nil eD), hsD, eAll⟩ ?_ ?_
    · rintro i σ' H' hi ⟨rs, x7, x8, x9, rfl, hD, hl, hx, hs', a'⟩
      have hi' : (i : Int) < many - 5 := by omega
      have hwt' : SqT K H' wt (ws.map V.str) := SqT.of (a'.same _ _ hwt3)
      have hwl' : (ws.map V.str).length = ws.length := List.length_map ..
      have hwp : 0 < ws.length := List.length_pos_iff.mpr hwn
      have al' : ∀ b ∈ D :: M, H' b ≠ none := fun b hb => by
        rcases List.mem_cons.mp hb with z | hb
        · rw [z, hD]; simp
        · exact alloc_adv al3 a' (by simp) b hb
      walk_at "rd"
      generalize (a * (5 + (i : Int)) + (5 + (i : Int)) * (5 + (i : Int)) / 7) = X
      have y1 := Int.emod_nonneg X (show ((ws.map V.str).length : Int) ≠ 0 by omega)
      have y2 := Int.emod_lt_of_pos X (show (0 : Int) < ((ws.map V.str).length : Int) by omega)
      obtain ⟨t, ht⟩ : ∃ t : Nat, X % ((ws.map V.str).length : Int) = (t : Int) := ⟨(X % ((ws.map V.str).length : Int)).toNat, by omega⟩
      rw [ht]
      have hg : (ws.map V.str)[t]? = some (.str (ws[t]'(by omega))) := by rw [List.getElem?_map, List.getElem?_eq_getElem (by omega)]; rfl
      walk_at "rd"
      have fin : ∀ (ks : List Key) {p : Addr} {σ' : L2.St} {Q' : L2.St → Hp → Prop}, H' p = none → ks.length ≤ 3 → (∀ rs' H6, H6 D = some (.lst rs') → rs'.length = 5 + (i + 1) → RwDs (D :: M) H6 rs' → StrAt (D :: M) H6 s → Adv [] H3 H6 → Q' σ' H6) →
          rAppend (.ref D) [.ref p] (upd H' p (.tup (ks.map kV))) fun _ H2 => Q' σ' H2 := by
        intro ks p σ' Q' np hxl k
        have c1 : Adv [] H' (upd H' p (.tup (ks.map kV))) := Adv.new np
        have i1 := rw_new al' np hxl
        refine rd_app (c1.same _ _ hD) (by rw [sizeLine_eq]; omega) ?_
        have c2 : Adv [D] (upd H' p (.tup (ks.map kV))) (upd (upd H' p (.tup (ks.map kV))) D (.lst (rs ++ [.ref p]))) := Adv.set (by simp)
        have c3 : Adv [D] H' (upd (upd H' p (.tup (ks.map kV))) D (.lst (rs ++ [.ref p]))) := (Adv.nil c1).trans c2
        have sD : s ≠ D := fun z => hs3.here (by rw [z]; exact nD3)
        refine k _ _ upd_same (by rw [List.length_append, List.length_singleton]; omega) ((hx.adv (c3.more (by simp))).app (.cons (i1.adv (c2.more (by simp))) .nil)) (hs'.adv c3 (by simpa using sD) (by simp)) ((a'.trans c1).mut nD3)
      refine iteB (fun e => ?_) (fun e => ?_)
      · walk_at "rd"
        refine ⟨by show 2 ≤ sizeLine; decide, fun p np => ?_⟩
        walk_at "rd"
        exact fin [.inr _, .inl _] np (by simp) fun rs' H6 k1 k2 k3 k4 k5 => ⟨rs', _, _, _, rfl, k1, k2, k3, k4, k5⟩
      · walk_at "rd"
        refine iteB (fun e => ?_) (fun e => ?_)
        · walk_at "rd"
          refine ⟨by show 3 ≤ sizeLine; decide, fun p np => ?_⟩
          walk_at "rd"
          exact fin [.inr _, .inl _, .inl _] np (by simp) fun rs' H6 k1 k2 k3 k4 k5 => ⟨rs', _, _, _, rfl, k1, k2, k3, k4, k5⟩
        · walk_at "rd"
          refine ⟨by show 3 ≤ sizeLine; decide, fun p np => ?_⟩
          walk_at "rd"
          exact fin [.inr _, .inl _, .inl _] np (by simp) fun rs' H6 k1 k2 k3 k4 k5 => ⟨rs', _, _, _, rfl, k1, k2, k3, k4, k5⟩
    · rintro σ' H' ⟨rs, x7, x8, x9, rfl, hD, hl, hx, hs', a'⟩
      walk_at "rd"
      obtain ⟨ds, h, z⟩ := hx
      exact q D rs H' nDH hD ⟨ds, h.less (by simp +contextual), z⟩ (by omega) (hs'.less (by simp +contextual)) (g03.trans (Adv.nil a'))
end
end K60

set_option Elab.async false
set_option linter.all false
set_option maxRecDepth 100000
set_option maxHeartbeats 400000
namespace K60
open PySem PySem.Spec PyProof.Rows L2 LL
open C8 (pss_cut)
local macro_rules | `(tactic| walk_at "ne") => `(tactic| first | assumption | (apply Ne.symm; assumption) | exact ne_of_none (by walk_at "hp") (by assumption) | exact (ne_of_none (by walk_at "hp") (by assumption)).symm)
local macro_rules | `(tactic| walk_at "nm") => `(tactic| first | assumption | exact notin0 | exact notin1 (by walk_at "ne") | exact notin2 (by walk_at "ne") (by walk_at "ne"))
local macro_rules | `(tactic| walk_at "hp") => `(tactic| first | assumption | exact upd_same | (refine Eq.trans (upd_ne ?ne) ?hh; (case hh => walk_at "hp"); (case ne => walk_at "ne")) | (refine Adv.get' (by assumption) ?hh ?nn; (case hh => walk_at "hp"); (case nn => walk_at "nm")))
local macro_rules | `(tactic| walk_at "tp") => `(tactic| first | assumption | exact Tp.adv (by walk_at "tp") (by assumption) | exact Tp.adv (by walk_at "tp") (Adv.nil (by assumption)))
local macro_rules | `(tactic| walk_at "sq") => `(tactic| first | assumption | exact Tp.sq (by assumption) (by walk_at "tp") | exact SqT.of (by walk_at "hp"))
local macro_rules | `(tactic| walk_at "at") => `(tactic| first | exact atI_nat (j := 0) rfl | exact atI_nat (j := 1) rfl | exact atI_nat (j := 2) rfl | exact atI_nat (j := 3) rfl | exact atI_nat (by assumption) | (rw [Int.zero_add]; exact atI_nat (by assumption)))
local macro_rules | `(tactic| walk_at "bb") => `(tactic| first | assumption | decide | exact rfl)
local macro_rules | `(tactic| walk_at "ci") => `(tactic| first | omega | (dsimp only; omega) | (unfold CDiv; omega) | (unfold CMul; omega))
local macro_rules | `(tactic| walk_at "rd1") => `(tactic| first
  | with_reducible refine rd_c ?_
  | ((with_reducible refine' rd_var ?rh ?_); (case rh => exact rfl))
  | with_reducible refine rd_op ?_
  | with_reducible refine rd_seq ?_
  | with_reducible refine rd_asg ?_
  | with_reducible refine rd_gname ?_
  | with_reducible refine rd_ifS ?_
  | with_reducible refine rd_test ?_
  | with_reducible refine rd_tB ?_
  | with_reducible refine rd_blP ?_
  | ((with_reducible refine' iteY ?rh ?_); (case rh => walk_at "bb"))
  | ((with_reducible refine' iteN ?rh ?_); (case rh => walk_at "bb"))
  | with_reducible refine rd_ret ?_
  | with_reducible refine rd_nx ?_
  | ((with_reducible refine' rd_eq ?rh ?_); (case rh => exact rfl))
  | ((with_reducible refine' rd_ne ?rh ?_); (case rh => exact rfl))
  | with_reducible refine rd_add ?_
  | with_reducible refine rd_sub ?_
  | with_reducible refine rd_i0 ?_
  | with_reducible refine rd_and ?_
  | with_reducible refine rd_or ?_
  | with_reducible refine rd_not ?_
  | with_reducible refine rd_andV ?_
  | with_reducible refine rd_orV ?_
  | with_reducible refine rd_notV ?_
  | with_reducible refine rd_ifE ?_
  | with_reducible refine rd_isN ?_
  | with_reducible refine rd_notN ?_
  | with_reducible refine rd_cons ?_
  | with_reducible refine rd_nil ?_
  | with_reducible refine rd_tup ?_
  | with_reducible refine rd_lst ?_
  | with_reducible refine rd_call ?_
  | with_reducible refine rd_cb ?_
  | with_reducible refine rd_meth ?_
  | with_reducible refine rd_callS ?_
  | with_reducible refine rd_make ?_
  | with_reducible refine rd_rfl ?_
  | with_reducible refine rd_fld ?_
  | with_reducible refine rd_drop ?_
  | with_reducible refine rd_gsub ?_
  | with_reducible refine rd_gcons ?_
  | with_reducible refine rd_gnil ?_
  | with_reducible refine rd_par ?_
  | with_reducible refine rd_two ?_
  | with_reducible refine rd_par3 ?_
  | with_reducible refine rd_three ?_
  | with_reducible refine rd_int1 ?_
  | ((with_reducible refine' rd_i ?rh ?_); (case rh => walk_at "ci"))
  | with_reducible refine rd_part ?_
  | with_reducible refine rd_nopart ?_
  | with_reducible refine rd_int ?_
  | with_reducible refine rd_sl ?_
  | with_reducible refine rd_bm ?_
  | with_reducible refine rd_bm0 ?_
  | with_reducible refine rd_dgetT ?_
  | with_reducible refine rd_din ?_
  | with_reducible refine rd_dnin ?_
  | with_reducible refine rd_un ?_
  | ((with_reducible refine' rd_ixL ?rh ?re ?_); (case rh => walk_at "hp"); (case re => walk_at "at"))
  | ((with_reducible refine' rd_ixT ?rh ?re ?_); (case rh => walk_at "sq"); (case re => walk_at "at"))
  | ((with_reducible refine' rd_lenT ?rh ?_); (case rh => walk_at "sq"))
  | ((with_reducible refine' rd_tyL ?rh ?_); (case rh => walk_at "hp"))
  | ((with_reducible refine' rd_len ?rh ?_); (case rh => walk_at "hp"))
  | with_reducible refine rd_u ?_
  | ((with_reducible refine' rd_slL ?rh ?_); (case rh => walk_at "hp"))
  | with_reducible refine rd_for ?_
  | with_reducible refine rd_rng1 ?_
  | with_reducible refine rd_rng2 ?_
  | with_reducible refine rd_ints1 ?_
  | with_reducible refine rd_ints2 ?_
  | with_reducible refine rd_retN ?_)
local macro_rules | `(tactic| walk_at "rd") => `(tactic| repeat walk_at "rd1")
section
variable [KW]
variable {P : Program} {w : World} {K : PySem.W.Frag} {mg : Str → Option Value} {base : Heap}
/-! ### is_tuple_of -/
def tupN (n : Int) : PyData → Bool
  | .tuple ds => decide ((ds.length : Int) = n)
  | _ => false
theorem not_tup {d : PyData} (h : ¬ ∃ ds, d = .tuple ds) : kitD d "tuple" = false := by
  cases d with
  | tuple ds => exact absurd ⟨ds, rfl⟩ h
  | _ => simp [kitD, tyN]
def spIsTupleOf : Sp := fun vs H Q _ => ∃ (v : V) (d : PyData) (n : Int), vs = [v, .int n] ∧ Is [] H d v ∧ Q (.bl (tupN n d)) H
theorem ok_is_tuple_of (A : All K mg w) : FnOk P w K mg base CX0 1 A.is_tuple_of.f A.is_tuple_of.fd ["value", "many"] spIsTupleOf := by
  refine A.is_tuple_of.F.ok sc_is_tuple_of (fun vs H Q E h => ?_) (fun cdv Ar outer s H vs Q E hr h => ?_)
  · obtain ⟨v, d, n, rfl, _⟩ := h
    rfl
  · obtain ⟨v, d, n, rfl, hv, q⟩ := h
    refine ⟨_, (pss_one (ps_ret (pe_and (pe_callB call_isi (by rfl) A.T.isinstance (by decide +kernel) (pa_cons (pv 0) (pa_cons (pe_bltn (v := .ty "tuple") (by rfl) A.T.tuple (by decide +kernel) rfl) pa_nil))) (pe_one (pe_cmpR op_eq (pe_callB call_len_seq (by rfl) A.T.len PySem.boot_len (pa_cons (pv 0) pa_nil)) (pv 1) (nomark _)))))), ?_⟩
    refine ⟨_, rfl, _, _, _, _, _, rfl, .ty _, hv.ty A.W, k_tuple d, _, rfl, ?_⟩
    by_cases ht : ∃ ds, d = .tuple ds
    · obtain ⟨ds, rfl⟩ := ht
      obtain ⟨a, vs, rfl, htp, hs⟩ := hv.tupE
      refine iteY (by simp [kitD, tyN]) ?_
      have sq := htp.sq A.W
      walk_at "rd"
      have e : Q (.bl (decide (V.int (vs.length : Nat) = V.int n))) H := by
        rw [hs.len]
        have e2 : decide (V.int (ds.length : Nat) = V.int n) = decide ((ds.length : Int) = n) := by
          by_cases c : (ds.length : Int) = n
          · rw [c]; simp
          · rw [decide_eq_false c]
            exact decide_eq_false fun z => c (V.int.inj z)
        rw [e2]
        exact q
      exact e
    · refine iteN (not_tup ht) ?_
      cases d with
      | tuple ds => exact absurd ⟨ds, rfl⟩ ht
      | _ => exact q
/-! ### are_any_rows, is_rising, are_rows -/
def anyB (n : Int) : PyData → Bool
  | .tuple ds => ds.all (isNum 0 (n - 1))
  | _ => false
def tupZ (d : PyData) : Prop := ∀ ds, d = .tuple ds → ds.length ≤ 1000000
def spAnyRows : Sp := fun vs H Q _ => ∃ (v : V) (d : PyData) (n : Int), vs = [v, .int n] ∧ Is [] H d v ∧ tupZ d ∧ ∀ H', Adv [] H H' → Q (.bl (anyB n d)) H'
theorem ok_are_any_rows (A : All K mg w) : FnOk P w K mg base CX0 3 A.are_any_rows.f A.are_any_rows.fd ["value", "count"] spAnyRows := by
  refine A.are_any_rows.F.ok sc_are_any_rows (fun vs H Q E h => ?_) (fun cdv Ar outer s H vs Q E hr h => ?_)
  · obtain ⟨v, d, n, rfl, _⟩ := h
    rfl
  · obtain ⟨v, d, n, rfl, hv, hz, q⟩ := h
    refine ⟨_, (pss_one (ps_ret (pe_and (pe_callB call_isi (by rfl) A.T.isinstance (by decide +kernel) (pa_cons (pv 0) (pa_cons (pe_bltn (v := .ty "tuple") (by rfl) A.T.tuple (by decide +kernel) rfl) pa_nil))) (pe_one (pe_callB (cr_all rfl) (by rfl) A.T.all (by decide +kernel) (pa_cons (pe_lc (own := [("item", 2)]) (g := gName 2) rfl sc_are_any_rows.nd (pi_tup (pv 0)) (blkOk_by (own := [("item", 2)]) (N := ["value", "count", "item"]) (sc := defScope s_are_any_rows) (by decide +kernel)) (fun _ _ _ _ _ => pg_name (i := 2) sc_are_any_rows.nd rfl (Or.inl rfl)) (fun _ _ _ _ _ => pts_nil) (fun _ _ _ _ _ => (pe_call (ok_is_between A) (hr.mono (by omega)) rfl A.is_between.m A.is_between.F.kp A.is_between.b .nil pass0 (pa_cons (pv 2) (pa_cons pe_int (pa_cons (pe_op op_sub (pv 1) pe_int) pa_nil)))))) pa_nil)))))), ?_⟩
    refine ⟨_, rfl, _, _, _, _, _, rfl, .ty _, hv.ty A.W, k_tuple d, _, rfl, ?_⟩
    by_cases ht : ∃ ds, d = .tuple ds
    · obtain ⟨ds, rfl⟩ := ht
      have hz := hz ds rfl
      obtain ⟨a, vs, rfl, htp, hs⟩ := hv.tupE
      have hl := hs.len
      refine iteY (by simp [kitD, tyN]) ?_
      refine ⟨_, rfl, a, rfl, ⟨_, htp.sq A.W⟩, fun D nD => ?_⟩
      refine lc_mapT (K := K) (a := a) (xs := vs) (fun i => V.bl (isNum 0 (n - 1) (ds.getD i .none))) nD (htp.sq A.W) (by omega) ?_ ?_
      · intro i x H' acc R hx aH hD k
        obtain ⟨dx, hdx, hisx⟩ := hs.getV hx
        have ed : ds.getD i .none = dx := by rw [List.getD_eq_getElem?_getD, hdx]; rfl
        refine ⟨rfl, x, rfl, _, rfl, n, 1, rfl, rfl, x, dx, 0, n - 1, rfl, (hisx.adv aH), ?_⟩
        have k' := k H' hD aH
        rw [ed] at k'
        exact k'
      · intro H' aH hD
        refine ⟨D, ds.map (isNum 0 (n - 1)), rfl, .inl (.inl ?_), ?_⟩
        · rw [hD, hl, range_map_list]
        · rw [all_id _ (isNum 0 (n - 1)) ds rfl]
          exact q H' aH
    · refine iteN (not_tup ht) ?_
      have q' := q H (Adv.refl _ _)
      cases d with
      | tuple ds => exact absurd ⟨ds, rfl⟩ ht
      | _ => exact q'
def spRising : Sp := fun vs H Q _ => ∃ (a : Addr) (rows : List Nat), vs = [.ref a] ∧ Tp [] H a (nVl rows) ∧ rows.length ≤ 1000000 ∧ ∀ H', Adv [] H H' → Q (.bl (risB (rows.map fun r => ((r : Nat) : Int)))) H'
theorem ok_is_rising (A : All K mg w) : FnOk P w K mg base CX0 1 A.is_rising.f A.is_rising.fd ["values"] spRising := by
  refine A.is_rising.F.ok sc_is_rising (fun vs H Q E h => ?_) (fun cdv Ar outer s H vs Q E hr h => ?_)
  · obtain ⟨a, rows, rfl, _⟩ := h
    rfl
  · obtain ⟨a, rows, rfl, hT, hz, q⟩ := h
    refine ⟨_, (pss_one (ps_ret (pe_callB (cr_all rfl) (by rfl) A.T.all (by decide +kernel) (pa_cons (pe_lc (own := [("k", 1)]) (g := gName 1) rfl sc_is_rising.nd (pi_range2 rfl A.T.range (pa_cons pe_int (pa_cons (pe_callB call_len_seq (by rfl) A.T.len PySem.boot_len (pa_cons (pv 0) pa_nil)) pa_nil))) (blkOk_by (own := [("k", 1)]) (N := ["values", "k"]) (sc := defScope s_is_rising) (by decide +kernel)) (fun _ _ _ _ _ => pg_name (i := 1) sc_is_rising.nd rfl (Or.inl rfl)) (fun _ _ _ _ _ => pts_nil) (fun _ _ _ _ _ => (pe_cmpR op_lt (pe_ix (ix_any K rfl) (pv 0) (pe_op op_sub (pv 1) pe_int) (fun _ _ => rfl)) (pe_ix (ix_any K rfl) (pv 0) (pv 1) (fun _ _ => rfl)) (nomark _)))) pa_nil)))), ?_⟩
    have hl : (nVl rows).length = rows.length := by unfold nVl; rw [List.length_map]
    have sq := hT.sq A.W
    refine ⟨_, rfl, a, _, rfl, .inr sq, 1, _, rfl, ⟨by decide, by decide, by omega, by rw [hl]; omega⟩, fun D nD => ?_⟩
    have hn : (((nVl rows).length : Nat) - 1 : Int).toNat = rows.length - 1 := by rw [hl]; omega
    rw [hn]
    have at_ : ∀ (j : Nat) (i : Int), j < rows.length → i = (j : Nat) → atI (nVl rows) i = some (.int (rows.getD j 0 : Nat)) := fun j i hj e => by
      rw [e]
      refine atI_nat (j := j) ?_
      unfold nVl
      simp [hj]
    refine lc_mapRl (fun i => V.bl (decide (((rows.getD i 0 : Nat) : Int) < (rows.getD (i + 1) 0 : Nat)))) nD (by omega) ?_ ?_
    · intro i H' acc R hi aH hD k
      have sq' := SqT.adv aH sq
      refine ⟨rfl, _, rfl, _, rfl, 1 + (i : Int), 1, rfl, rfl, .inr ⟨a, _, _, _, rfl, rfl, sq', at_ i _ (by omega) (by omega), _, rfl, _, rfl, .inr ⟨a, _, _, _, rfl, rfl, sq', at_ (i + 1) _ (by omega) (by omega), _, _, rfl, rfl, k H' hD aH⟩⟩⟩
    · intro H' aH hD
      refine ⟨D, (List.range (rows.length - 1)).map fun i => decide (((rows.getD i 0 : Nat) : Int) < (rows.getD (i + 1) 0 : Nat)), rfl, .inl (.inl ?_), ?_⟩
      · rw [hD, List.map_map]
        rfl
      · have q' := q H' aH
        have e : (List.map (fun i => decide (((rows.getD i 0 : Nat) : Int) < (rows.getD (i + 1) 0 : Nat))) (List.range (rows.length - 1))).all id = risB (rows.map fun r => ((r : Nat) : Int)) := by
          unfold risB
          rw [List.all_map, List.length_map]
          have gd : ∀ j : Nat, (rows.map fun r => ((r : Nat) : Int)).getD j 0 = ((rows.getD j 0 : Nat) : Int) := fun j => by
            rw [List.getD_eq_getElem?_getD, List.getD_eq_getElem?_getD, List.getElem?_map]
            cases rows[j]? <;> rfl
          congr 1
          funext i
          rw [gd, gd]
          rfl
        rw [e]
        exact q'
/-! ### check_logic, check_rows_of -/
def spCheckLogic : Sp := fun vs H Q E => ∃ (x : Str), vs = [.str x] ∧ logicOk x = true ∧ Q .non H
theorem ok_check_logic (A : All K mg w) : FnOk P w K mg base CX0 1 A.check_logic.f A.check_logic.fd ["logic"] spCheckLogic := by
  refine A.check_logic.F.ok sc_check_logic (fun vs H Q E h => ?_) (fun cdv Ar outer s H vs Q E hr h => ?_)
  · obtain ⟨x, rfl, _⟩ := h
    rfl
  · obtain ⟨x, rfl, hx, q⟩ := h
    obtain ⟨a, ma, ha⟩ := A.C.logics
    refine ⟨_, (pss_one (ps_if (PW.pt (pw_or (pt_not (pt_val (pe_callB call_isi (by rfl) A.T.isinstance (by decide +kernel) (pa_cons (pv 0) (pa_cons (pe_bltn (v := .ty "str") (by rfl) A.T.str (by decide +kernel) rfl) pa_nil))))) (pw_or1 (pt_cmpR op_notIn_seq (pv 0) (pe_glob (v := .ref a) rfl ma rfl) rfl))))
    (pss_one ps_never)
    pss_nil)), ?_⟩
    refine ⟨_, rfl, _, _, _, _, _, rfl, .ty _, (Is.str (M := [])).ty A.W, k_str (.str x), _, rfl, ?_⟩
    refine iteN rfl ?_
    refine ⟨_, rfl, a, _, rfl, .inr (ha H), rfl, by decide, _, rfl, ?_⟩
    have e : inV (.str x) [.str "classical", .str "intuit", .str "k", .str "s4", .str "gl"] = logicOk x := (inV_strs x ["classical", "intuit", "k", "s4", "gl"]).trans (by simp [logicOk, Bool.or_assoc])
    rw [if_pos rfl, e, hx]
    exact q
theorem adv_raise {H1 : Hp} {a dx : Addr} {o1 o2 o3 o4 : HO} (na : H1 a = none) (n1 : H1 dx = none) : Adv [] H1 (upd (del (upd (upd (upd H1 a o1) dx o2) a o3) a) dx o4) := fun b o hb eb => by
  have hba : b ≠ a := ne_of_none eb na
  have hbd : b ≠ dx := ne_of_none eb n1
  rw [upd_ne hbd, del_ne hba, upd_ne hba, upd_ne hbd, upd_ne hba]
  exact eb
def spCheckRows (S : Addr) : Sp := fun vs H Q E => ∃ (v : V) (d : PyData) (most : Int) (boxed : Bool), vs = [v, .int most, .bl boxed] ∧ Is [] H d v ∧ 0 ≤ most ∧ (∀ ds, d = .list ds → ds.length ≤ 1000000) ∧
  (wrongD most boxed d = none → ∀ H', Adv [] H H' → Q .non H') ∧ (∀ r, wrongD most boxed d = some r → ∀ dd H', Adv [] H H' → H dd = none → H' dd = some (.xd [("row", .int r)]) → E (.ref S) (some dd) H')
theorem ok_check_rows_of (A : All K mg w) (Z : Exs K mg) (Z1 : Er_BadSheet Z) : FnOk P w K mg base (L2N.CX P w) 5 A.check_rows_of.f A.check_rows_of.fd ["sheet", "most", "boxed"] (spCheckRows (Z.cA "BadSheet")) := by
  refine okXN A.check_rows_of.F sc_check_rows_of (fun vs H Q E h => ?_) (fun cdv Ar outer s H vs Q E hr h => ?_)
  · obtain ⟨v, d, most, boxed, rfl, _⟩ := h
    rfl
  · obtain ⟨v, d, most, boxed, rfl, hv, h0, hl, q1, q2⟩ := h
    refine ⟨_, (pss_cons (ps_set (i := 3) sc_check_rows_of.nd rfl (Or.inl rfl) (pe_call (ok_wrong_row A) (hr.mono (by omega)) rfl A.wrong_row.m A.wrong_row.F.kp A.wrong_row.b .nil pass0 (pa_cons (pv 0) (pa_cons (pv 1) (pa_cons (pv 2) pa_nil)))))
  (pss_one (ps_if (pt_cmpR op_notN (pv 3) pe_non (nomark _))
    (pss_one (L2N.ps_raise rfl (L2N.takes_of rfl rfl rfl rfl) (pmk_initN Z1.O Z1.I Z1.T (ok_BadSheet Z1) (hr.mono (by omega)) Z1.b .nil pass0 rfl (Z.mA "BadSheet" (by decide)) (pa_cons (pv 3) pa_nil))))
    pss_nil))), ?_⟩
    walk_at "rd"
    refine ⟨v, d, most, boxed, rfl, hv, h0, hl, fun H1 a1 => ?_⟩
    walk_at "rd"
    cases e : wrongD most boxed d with
    | none => exact iteN (by decide) (q1 e H1 a1)
    | some r =>
      refine iteY (by simp [resV]) ?_
      refine ⟨_, rfl, Nat.le_of_ble_eq_true rfl, fun a na => ⟨a, .int r, rfl, upd_same, fun dx n1 n2 => ⟨rfl, dx, [("row", .int r)], upd_same, ?_, ?_, ?_⟩⟩⟩
      · rw [upd_ne n2, upd_same]
      · rw [upd_ne n2] at n1
        exact n1
      · have n1' : H1 dx = none := by rw [upd_ne n2] at n1; exact n1
        exact q2 r e dx _ (a1.trans (adv_raise na n1')) (a1.free (by simp) n1') upd_same
end
end K60

set_option Elab.async false
set_option linter.all false
set_option maxRecDepth 100000
set_option maxHeartbeats 400000
namespace K60
open PySem PySem.Spec PyProof.Rows L2 LL
open C8 (pss_cut)
local macro_rules | `(tactic| walk_at "ne") => `(tactic| first | assumption | (apply Ne.symm; assumption) | exact ne_of_none (by walk_at "hp") (by assumption) | exact (ne_of_none (by walk_at "hp") (by assumption)).symm)
local macro_rules | `(tactic| walk_at "nm") => `(tactic| first | assumption | exact notin0 | exact notin1 (by walk_at "ne") | exact notin2 (by walk_at "ne") (by walk_at "ne"))
local macro_rules | `(tactic| walk_at "hp") => `(tactic| first | assumption | exact upd_same | (refine Eq.trans (upd_ne ?ne) ?hh; (case hh => walk_at "hp"); (case ne => walk_at "ne")) | (refine Adv.get' (by assumption) ?hh ?nn; (case hh => walk_at "hp"); (case nn => walk_at "nm")))
local macro_rules | `(tactic| walk_at "tp") => `(tactic| first | assumption | exact Tp.adv (by walk_at "tp") (by assumption) | exact Tp.adv (by walk_at "tp") (Adv.nil (by assumption)))
local macro_rules | `(tactic| walk_at "sq") => `(tactic| first | assumption | exact Tp.sq (by assumption) (by walk_at "tp") | exact SqT.of (by walk_at "hp"))
local macro_rules | `(tactic| walk_at "at") => `(tactic| first | exact atI_nat (j := 0) rfl | exact atI_nat (j := 1) rfl | exact atI_nat (j := 2) rfl | exact atI_nat (j := 3) rfl | exact atI_nat (by assumption) | (rw [Int.zero_add]; exact atI_nat (by assumption)))
local macro_rules | `(tactic| walk_at "bb") => `(tactic| first | assumption | decide | exact rfl)
local macro_rules | `(tactic| walk_at "ci") => `(tactic| first | omega | (dsimp only; omega) | (unfold CDiv; omega) | (unfold CMul; omega))
local macro_rules | `(tactic| walk_at "rd1") => `(tactic| first
  | with_reducible refine rd_c ?_
  | ((with_reducible refine' rd_var ?rh ?_); (case rh => exact rfl))
  | with_reducible refine rd_op ?_
  | with_reducible refine rd_seq ?_
  | with_reducible refine rd_asg ?_
  | with_reducible refine rd_gname ?_
  | with_reducible refine rd_ifS ?_
  | with_reducible refine rd_test ?_
  | with_reducible refine rd_tB ?_
  | with_reducible refine rd_blP ?_
  | ((with_reducible refine' iteY ?rh ?_); (case rh => walk_at "bb"))
  | ((with_reducible refine' iteN ?rh ?_); (case rh => walk_at "bb"))
  | with_reducible refine rd_ret ?_
  | with_reducible refine rd_nx ?_
  | ((with_reducible refine' rd_eq ?rh ?_); (case rh => exact rfl))
  | ((with_reducible refine' rd_ne ?rh ?_); (case rh => exact rfl))
  | with_reducible refine rd_add ?_
  | with_reducible refine rd_sub ?_
  | with_reducible refine rd_i0 ?_
  | with_reducible refine rd_and ?_
  | with_reducible refine rd_or ?_
  | with_reducible refine rd_not ?_
  | with_reducible refine rd_andV ?_
  | with_reducible refine rd_orV ?_
  | with_reducible refine rd_notV ?_
  | with_reducible refine rd_ifE ?_
  | with_reducible refine rd_isN ?_
  | with_reducible refine rd_notN ?_
  | with_reducible refine rd_cons ?_
  | with_reducible refine rd_nil ?_
  | with_reducible refine rd_tup ?_
  | with_reducible refine rd_lst ?_
  | with_reducible refine rd_call ?_
  | with_reducible refine rd_cb ?_
  | with_reducible refine rd_meth ?_
  | with_reducible refine rd_callS ?_
  | with_reducible refine rd_make ?_
  | with_reducible refine rd_rfl ?_
  | with_reducible refine rd_fld ?_
  | with_reducible refine rd_drop ?_
  | with_reducible refine rd_gsub ?_
  | with_reducible refine rd_gcons ?_
  | with_reducible refine rd_gnil ?_
  | with_reducible refine rd_par ?_
  | with_reducible refine rd_two ?_
  | with_reducible refine rd_par3 ?_
  | with_reducible refine rd_three ?_
  | with_reducible refine rd_int1 ?_
  | ((with_reducible refine' rd_i ?rh ?_); (case rh => walk_at "ci"))
  | with_reducible refine rd_part ?_
  | with_reducible refine rd_nopart ?_
  | with_reducible refine rd_int ?_
  | with_reducible refine rd_sl ?_
  | with_reducible refine rd_bm ?_
  | with_reducible refine rd_bm0 ?_
  | with_reducible refine rd_dgetT ?_
  | with_reducible refine rd_din ?_
  | with_reducible refine rd_dnin ?_
  | with_reducible refine rd_un ?_
  | ((with_reducible refine' rd_ixL ?rh ?re ?_); (case rh => walk_at "hp"); (case re => walk_at "at"))
  | ((with_reducible refine' rd_ixT ?rh ?re ?_); (case rh => walk_at "sq"); (case re => walk_at "at"))
  | ((with_reducible refine' rd_lenT ?rh ?_); (case rh => walk_at "sq"))
  | ((with_reducible refine' rd_tyL ?rh ?_); (case rh => walk_at "hp"))
  | ((with_reducible refine' rd_len ?rh ?_); (case rh => walk_at "hp"))
  | with_reducible refine rd_u ?_
  | ((with_reducible refine' rd_slL ?rh ?_); (case rh => walk_at "hp"))
  | with_reducible refine rd_for ?_
  | with_reducible refine rd_rng1 ?_
  | with_reducible refine rd_rng2 ?_
  | with_reducible refine rd_ints1 ?_
  | with_reducible refine rd_ints2 ?_
  | with_reducible refine rd_retN ?_)
local macro_rules | `(tactic| walk_at "rd") => `(tactic| repeat walk_at "rd1")
section
variable [KW]
variable {P : Program} {w : World} {K : PySem.W.Frag} {mg : Str → Option Value} {base : Heap}
theorem any_rows {n : Int} {d : PyData} (h : anyB n d = true) : ∃ rows : List Nat, d = .tuple (nD rows) ∧ ∀ r ∈ rows, (r : Int) < n := by
  cases d with
  | tuple ds =>
    obtain ⟨rows, rfl, h2⟩ := all_nat (n := n) h
    exact ⟨rows, rfl, h2⟩
  | _ => cases h
theorem rowsB_any {n : Int} {d : PyData} (h : anyB n d = false) : rowsB n d = false := by
  cases d with
  | tuple ds =>
    have h : ds.all (isNum 0 (n - 1)) = false := h
    show (ds.all (isNum 0 (n - 1)) && _) = false
    rw [h, Bool.false_and]
  | _ => rfl
theorem rowsB_ris {n : Int} {rows : List Nat} (h : anyB n (.tuple (nD rows)) = true) : rowsB n (.tuple (nD rows)) = risB (rows.map fun r => ((r : Nat) : Int)) := by
  have h : (nD rows).all (isNum 0 (n - 1)) = true := h
  show ((nD rows).all (isNum 0 (n - 1)) && risB ((nD rows).map LL.intD)) = _
  rw [h, Bool.true_and, nD_int]
/-! ### are_rows -/
def spAreRows : Sp := fun vs H Q _ => ∃ (v : V) (d : PyData) (n : Int), vs = [v, .int n] ∧ Is [] H d v ∧ tupZ d ∧ ∀ H', Adv [] H H' → Q (.bl (rowsB n d)) H'
theorem ok_are_rows (A : All K mg w) : FnOk P w K mg base CX0 4 A.are_rows.f A.are_rows.fd ["value", "count"] spAreRows := by
  refine A.are_rows.F.ok sc_are_rows (fun vs H Q E h => ?_) (fun cdv Ar outer s H vs Q E hr h => ?_)
  · obtain ⟨v, d, n, rfl, _⟩ := h
    rfl
  · obtain ⟨v, d, n, rfl, hv, hz, q⟩ := h
    refine ⟨_, (pss_one (ps_ret (pe_and (pe_call (ok_are_any_rows A) (hr.mono (by omega)) rfl A.are_any_rows.m A.are_any_rows.F.kp A.are_any_rows.b .nil pass0 (pa_cons (pv 0) (pa_cons (pv 1) pa_nil))) (pe_one (pe_call (ok_is_rising A) (hr.mono (by omega)) rfl A.is_rising.m A.is_rising.F.kp A.is_rising.b .nil pass0 (pa_cons (pv 0) pa_nil)))))), ?_⟩
    walk_at "rd"
    refine ⟨v, d, n, rfl, hv, hz, fun H1 a1 => ?_⟩
    walk_at "rd"
    cases e : anyB n d with
    | false =>
      refine iteN rfl ?_
      have q' := q H1 a1
      rw [rowsB_any e] at q'
      exact q'
    | true =>
      obtain ⟨rows, rfl, hr⟩ := any_rows e
      refine iteY rfl ?_
      obtain ⟨a, vs, rfl, htp, hs⟩ := hv.tupE
      have hl := hz _ rfl
      rw [show (nD rows).length = rows.length from List.length_map ..] at hl
      rw [nD_of hs] at htp
      walk_at "rd"
      refine ⟨a, rows, rfl, htp.adv a1, hl, fun H2 a2 => ?_⟩
      have q' := q H2 (a1.trans a2)
      rw [rowsB_ris e] at q'
      exact q'
/-! ### check_claim_to -/
abbrev cw (c : Str) (x : PyData) : Option (Str × PyData) := some (c, x)
structure ClmP (cS cC : Addr) (x : Str) (v : V) (H : Hp) (Q : VK) (E : XK) : Prop where
  ex : ∃ d : PyData, logicOk x = true ∧ logicB x = false ∧ Is [] H d v ∧ sz d ≤ 1000000 ∧
    (∀ i, claimW d = cw "BadSheet" (.int i) → ∀ dd H', Adv [] H H' → H dd = none → H' dd = some (.xd [("row", .int i)]) → E (.ref cS) (some dd) H') ∧
    (∀ z, claimW d = cw "BadClaim" (.str z) → ∀ dd H', Adv [] H H' → H dd = none → H' dd = some (.xd [("word", .str z)]) → E (.ref cC) (some dd) H') ∧
    (claimW d = none → ∀ H', Adv [] H H' → Q .non H')
def spClaimTo (cS cC : Addr) : Sp := fun vs H Q E => ∃ x v, vs = [.str x, v, .int 5000] ∧ ClmP cS cC x v H Q E
theorem four_not {d : PyData} (h : tupN 4 d = false) : claimW d = cw "BadClaim" (.str "claim") := by
  unfold claimW
  split
  · simp [tupN] at h
  · rfl
theorem four_yes {d : PyData} (h : tupN 4 d = true) : ∃ a b c e, d = .tuple [a, b, c, e] := by
  cases d with
  | tuple ds =>
    have h : (ds.length : Int) = 4 := of_decide_eq_true h
    match ds, h with
    | [a, b, c, e], _ => exact ⟨a, b, c, e, rfl⟩
  | _ => cases h
theorem lay_nD : ∀ rows : List Nat, PyData.canLayAll0 (nD rows) = true
  | [] => rfl
  | r :: rows => by
    show PyData.canLayAll0 (.int (r : Nat) :: nD rows) = true
    unfold PyData.canLayAll0
    rw [lay_nD rows]
    rfl
theorem depth_nD : ∀ rows : List Nat, PyData.depthAll (nD rows) ≤ 1
  | [] => Nat.zero_le _
  | r :: rows => by
    show PyData.depthAll (.int (r : Nat) :: nD rows) ≤ 1
    unfold PyData.depthAll
    have := depth_nD rows
    have : PyData.depth (.int (r : Nat)) ≤ 1 := by unfold PyData.depth; omega
    omega
theorem shaped_nD (rows : List Nat) : SeqAt.shaped (.tuple (nD rows)) = true := by
  unfold SeqAt.shaped PyData.canLay0
  rw [lay_nD, Bool.true_and]
  have := depth_nD rows
  unfold PyData.depth
  simp
  omega
theorem dp_nD {H : Hp} : ∀ rows : List Nat, DpAll K H (nVl rows) (nD rows)
  | [] => .nil
  | r :: rows => .cons (.int _) (dp_nD rows)
theorem eqv_nil (rows : List Nat) : PyData.eqv (.tuple (nD rows)) (.tuple []) = rows.isEmpty := by
  cases rows with
  | nil => rfl
  | cons r rows => rfl
theorem IsDs.four {M : List Addr} {H : Hp} {a b c d : PyData} {vs : List V} (h : IsDs M H [a, b, c, d] vs) : ∃ va vb vc vd, vs = [va, vb, vc, vd] ∧ Is M H a va ∧ Is M H b vb ∧ Is M H c vc ∧ Is M H d vd := by
  unfold IsDs at h
  obtain ⟨va, ws, rfl, h1, h⟩ := h
  unfold IsDs at h
  obtain ⟨vb, ws, rfl, h2, h⟩ := h
  unfold IsDs at h
  obtain ⟨vc, ws, rfl, h3, h⟩ := h
  unfold IsDs at h
  obtain ⟨vd, ws, rfl, h4, h⟩ := h
  unfold IsDs at h
  subst h
  exact ⟨va, vb, vc, vd, rfl, h1, h2, h3, h4⟩
theorem cw_sheet {a b c d : PyData} {i : Int} (e : wrongD 5000 false a = some i) : claimW (.tuple [a, b, c, d]) = cw "BadSheet" (.int i) := by
  show (match wrongD 5000 false a with | some i => _ | none => _) = _
  rw [e]
theorem cw_next {a b c d : PyData} (e : wrongD 5000 false a = none) : claimW (.tuple [a, b, c, d]) = if (rowsB (lenD a) b && emptyT b) = false then cw "BadClaim" (.str "theory") else if rowsB (lenD a) c = false then cw "BadClaim" (.str "left") else if rowsB (lenD a) d = false then cw "BadClaim" (.str "right") else none := by
  show (match wrongD 5000 false a with | some i => _ | none => _) = _
  rw [e]
theorem sz_four {a b c d : PyData} (h : sz (.tuple [a, b, c, d]) ≤ 1000000) : sz a ≤ 1000000 ∧ sz b ≤ 1000000 ∧ sz c ≤ 1000000 ∧ sz d ≤ 1000000 := by
  rw [sz_tup, szL_cons, szL_cons, szL_cons, szL_cons, szL_nil] at h
  omega
theorem sz_tupZ {d : PyData} (h : sz d ≤ 1000000) : tupZ d := fun ds e => by
  subst e
  have := szL_len ds
  rw [sz_tup] at h
  omega
theorem sz_lstZ {d : PyData} (h : sz d ≤ 1000000) : ∀ ds, d = .list ds → ds.length ≤ 1000000 := fun ds e => by
  subst e
  have := szL_len ds
  rw [sz_lst] at h
  omega
theorem ok_check_claim_to (A : All K mg w) (Z : Exs K mg) (Z1 : Er_BadSheet Z) (Z3 : Er_BadClaim Z) : FnOk P w K mg base (L2N.CX P w) 6 A.check_claim_to.f A.check_claim_to.fd ["logic", "claim", "most"] (spClaimTo (Z.cA "BadSheet") (Z.cA "BadClaim")) := by
  refine okXN A.check_claim_to.F sc_check_claim_to (fun vs H Q E h => ?_) (fun cdv Ar outer s H vs Q E hr h => ?_)
  · obtain ⟨x, v, rfl, _⟩ := h
    rfl
  · obtain ⟨x, v, rfl, X⟩ := h
    obtain ⟨d, hx, hb, hv, hz, q1, q2, q3⟩ := X.ex
    refine ⟨_, (pss_cons (ps_expr (pe_call (ok_check_logic A) (hr.mono (by omega)) rfl A.check_logic.m A.check_logic.F.kp A.check_logic.b .nil pass0 (pa_cons (pv 0) pa_nil)))
  (pss_cut (ps_if (pt_not (pt_val (pe_call (ok_is_tuple_of A) (hr.mono (by omega)) rfl A.is_tuple_of.m A.is_tuple_of.F.kp A.is_tuple_of.b .nil pass0 (pa_cons (pv 1) (pa_cons pe_int pa_nil)))))
    (pss_one (L2N.ps_raise rfl (L2N.takes_of rfl rfl rfl rfl) (pmk_initN Z3.O Z3.I Z3.T (ok_BadClaim Z3) (hr.mono (by omega)) Z3.b .nil pass0 rfl (Z.mA "BadClaim" (by decide)) (pa_cons pe_str pa_nil))))
    pss_nil)
  (pss_cons (ps_asg (pv 1) (pg_tup rfl (pgs_cons (pg_name (i := 3) sc_check_claim_to.nd rfl (Or.inl rfl)) (pgs_cons (pg_name (i := 4) sc_check_claim_to.nd rfl (Or.inl rfl)) (pgs_cons (pg_name (i := 5) sc_check_claim_to.nd rfl (Or.inl rfl)) (pgs_cons (pg_name (i := 6) sc_check_claim_to.nd rfl (Or.inl rfl)) pgs_nil))))))
  (pss_cons (ps_expr (pe_callS (ok_check_rows_of A Z Z1) (hr.mono (by omega)) rfl A.check_rows_of.m A.check_rows_of.F.kp A.check_rows_of.b (L2N.passAt (L2N.takes_of rfl rfl rfl rfl)) (pa_cons (pv 3) (pa_cons (pv 2) (pa_cons (pe_call (ok_is_boxed A) (hr.mono (by omega)) rfl A.is_boxed.m A.is_boxed.F.kp A.is_boxed.b .nil pass0 (pa_cons (pv 0) pa_nil)) pa_nil)))))
  (pss_cut (ps_if (PW.pt (pw_or (pt_not (pt_val (pe_call (ok_are_rows A) (hr.mono (by omega)) rfl A.are_rows.m A.are_rows.F.kp A.are_rows.b .nil pass0 (pa_cons (pv 4) (pa_cons (pe_callB call_len_seq (by rfl) A.T.len PySem.boot_len (pa_cons (pv 3) pa_nil)) pa_nil))))) (pw_or1 (PW.pt (pw_and (pt_cmpR (op_neD hr.units) (pv 4) (pe_tup pa_nil) (nomark _)) (pw_and1 (pt_not (pt_val (pe_call (ok_is_boxed A) (hr.mono (by omega)) rfl A.is_boxed.m A.is_boxed.F.kp A.is_boxed.b .nil pass0 (pa_cons (pv 0) pa_nil))))))))))
    (pss_one (L2N.ps_raise rfl (L2N.takes_of rfl rfl rfl rfl) (pmk_initN Z3.O Z3.I Z3.T (ok_BadClaim Z3) (hr.mono (by omega)) Z3.b .nil pass0 rfl (Z.mA "BadClaim" (by decide)) (pa_cons pe_str pa_nil))))
    pss_nil)
  (pss_cut (ps_if (pt_not (pt_val (pe_call (ok_are_rows A) (hr.mono (by omega)) rfl A.are_rows.m A.are_rows.F.kp A.are_rows.b .nil pass0 (pa_cons (pv 5) (pa_cons (pe_callB call_len_seq (by rfl) A.T.len PySem.boot_len (pa_cons (pv 3) pa_nil)) pa_nil)))))
    (pss_one (L2N.ps_raise rfl (L2N.takes_of rfl rfl rfl rfl) (pmk_initN Z3.O Z3.I Z3.T (ok_BadClaim Z3) (hr.mono (by omega)) Z3.b .nil pass0 rfl (Z.mA "BadClaim" (by decide)) (pa_cons pe_str pa_nil))))
    pss_nil)
  (pss_one (ps_if (pt_not (pt_val (pe_call (ok_are_rows A) (hr.mono (by omega)) rfl A.are_rows.m A.are_rows.F.kp A.are_rows.b .nil pass0 (pa_cons (pv 6) (pa_cons (pe_callB call_len_seq (by rfl) A.T.len PySem.boot_len (pa_cons (pv 3) pa_nil)) pa_nil)))))
    (pss_one (L2N.ps_raise rfl (L2N.takes_of rfl rfl rfl rfl) (pmk_initN Z3.O Z3.I Z3.T (ok_BadClaim Z3) (hr.mono (by omega)) Z3.b .nil pass0 rfl (Z.mA "BadClaim" (by decide)) (pa_cons pe_str pa_nil))))
    pss_nil)))))))), ?_⟩
    walk_at "rd"
    refine ⟨x, rfl, hx, ?_⟩
    walk_at "rd"
    refine ⟨fun σ' H' => H' = H ∧ tupN 4 d = true ∧ σ' = [some (.str x), some v, some (.int 5000), none, none, none, none], ?_, ?_⟩
    · walk_at "rd"
      refine ⟨v, d, 4, rfl, hv, ?_⟩
      walk_at "rd"
      cases e : tupN 4 d with
      | false =>
        refine iteY rfl ?_
        refine ⟨Nat.le_of_ble_eq_true rfl, fun a na => ⟨a, .str "claim", rfl, upd_same, fun dx n1 n2 => ⟨rfl, dx, [("word", .str "claim")], upd_same, ?_, ?_, ?_⟩⟩⟩
        · rw [upd_ne n2, upd_same]
        · rw [upd_ne n2] at n1
          exact n1
        · have n1' : H dx = none := by rw [upd_ne n2] at n1; exact n1
          exact q2 "claim" (four_not e) dx _ (adv_raise na n1') n1' upd_same
      | true =>
        refine iteN rfl ?_
        walk_at "rd"
        exact rfl
    · rintro σ' H1 ⟨rfl, e4, rfl⟩
      obtain ⟨da, db, dc, de, rfl⟩ := four_yes e4
      obtain ⟨z1, z2, z3, z4⟩ := sz_four hz
      obtain ⟨t, vs, rfl, htp, hs⟩ := hv.tupE
      obtain ⟨va, vb, vc, ve, rfl, ha, hb', hc, he⟩ := IsDs.four hs
      have sq := htp.sq A.W
      walk_at "rd"
      refine rd_gtup sq rfl ?_
      walk_at "rd"
      refine ⟨x, rfl, fun H2 a2 => ?_⟩
      rw [hb]
      walk_at "rd"
      refine ⟨va, da, 5000, false, rfl, ha.adv a2, by decide, sz_lstZ z1, fun e H3 a3 => ?_, fun r e dd H3 a3 n3 h3 => q1 r (cw_sheet e) dd H3 (a2.trans a3) (a2.free (by simp) n3) h3⟩
      have a13 := a2.trans a3
      obtain ⟨ns, rfl, ok, hl⟩ := wrongD_none (by decide) e
      obtain ⟨sh, rs, rfl, _, hsh, rd⟩ := ha.lstE
      have hrl := rd.len
      rw [List.length_map] at hrl
      have el : lenD (.list (ns.map Nd.data)) = ns.length := by show (ns.map Nd.data).length = ns.length; rw [List.length_map]
      have cn := cw_next (b := db) (c := dc) (d := de) e
      rw [el] at cn
      walk_at "rd"
      refine ⟨fun σ' H' => Adv [] H1 H' ∧ (rowsB (ns.length : Nat) db && emptyT db) = true ∧ σ' = [some (.str x), some (.ref t), some (.int 5000), some (.ref sh), some vb, some vc, some ve], ?_, ?_⟩
      · have hsh3 := a13.same _ _ hsh
        walk_at "rd"
        refine ⟨vb, db, (rs.length : Nat), rfl, hb'.adv a13, sz_tupZ z2, fun H4 a4 => ?_⟩
        rw [hrl]
        walk_at "rd"
        cases e1 : rowsB (ns.length : Nat) db with
        | false =>
          refine iteY rfl (iteY rfl ?_)
          refine ⟨Nat.le_of_ble_eq_true rfl, fun a na => ⟨a, .str "theory", rfl, upd_same, fun dx n1 n2 => ⟨rfl, dx, [("word", .str "theory")], upd_same, ?_, ?_, ?_⟩⟩⟩
          · rw [upd_ne n2, upd_same]
          · rw [upd_ne n2] at n1
            exact n1
          · have n1' : H4 dx = none := by rw [upd_ne n2] at n1; exact n1
            exact q2 "theory" (cn.trans (if_pos (by rw [e1]; rfl))) dx _ ((a13.trans a4).trans (adv_raise na n1')) ((a13.trans a4).free (by simp) n1') upd_same
        | true =>
          refine iteN rfl ?_
          obtain ⟨rows, rfl, hr1, hr2⟩ := rows_nat e1
          obtain ⟨tb, us, rfl, htb, hsb⟩ := hb'.tupE
          rw [nD_of hsb] at htb
          walk_at "rd"
          refine ⟨Nat.zero_le _, fun p np => ?_⟩
          have a5 : Adv [] H1 (upd H4 p (.tup [])) := (a13.trans a4).newT np
          refine ⟨_, _, .tup ((htb.adv a5).sq A.W) (dp_nD rows), .tup (SqT.of upd_same) .nil, shaped_nD rows, by decide +kernel, ?_⟩
          rw [eqv_nil]
          walk_at "rd"
          cases rows with
          | nil =>
            refine iteN rfl (iteN rfl ?_)
            walk_at "rd"
            exact ⟨a5, rfl, rfl⟩
          | cons r rows =>
            refine iteY rfl ?_
            walk_at "rd"
            refine ⟨x, rfl, fun H6 a6 => ?_⟩
            rw [hb]
            walk_at "rd"
            refine ⟨Nat.le_of_ble_eq_true rfl, fun a na => ⟨a, .str "theory", rfl, upd_same, fun dx n1 n2 => ⟨rfl, dx, [("word", .str "theory")], upd_same, ?_, ?_, ?_⟩⟩⟩
            · rw [upd_ne n2, upd_same]
            · rw [upd_ne n2] at n1
              exact n1
            · have n1' : H6 dx = none := by rw [upd_ne n2] at n1; exact n1
              exact q2 "theory" (cn.trans (if_pos (by rw [e1]; rfl))) dx _ ((a5.trans a6).trans (adv_raise na n1')) ((a5.trans a6).free (by simp) n1') upd_same
      · rintro σ' H4 ⟨a4, e1, rfl⟩
        rw [if_neg (by rw [e1]; decide)] at cn
        have hsh4 := a4.same _ _ hsh
        walk_at "rd"
        refine ⟨fun σ' H' => Adv [] H1 H' ∧ rowsB (ns.length : Nat) dc = true ∧ σ' = [some (.str x), some (.ref t), some (.int 5000), some (.ref sh), some vb, some vc, some ve], ?_, ?_⟩
        · walk_at "rd"
          refine ⟨vc, dc, (rs.length : Nat), rfl, hc.adv a4, sz_tupZ z3, fun H5 a5 => ?_⟩
          rw [hrl]
          walk_at "rd"
          cases e2 : rowsB (ns.length : Nat) dc with
          | false =>
            refine iteY rfl ?_
            refine ⟨Nat.le_of_ble_eq_true rfl, fun a na => ⟨a, .str "left", rfl, upd_same, fun dx n1 n2 => ⟨rfl, dx, [("word", .str "left")], upd_same, ?_, ?_, ?_⟩⟩⟩
            · rw [upd_ne n2, upd_same]
            · rw [upd_ne n2] at n1
              exact n1
            · have n1' : H5 dx = none := by rw [upd_ne n2] at n1; exact n1
              exact q2 "left" (cn.trans (if_pos e2)) dx _ ((a4.trans a5).trans (adv_raise na n1')) ((a4.trans a5).free (by simp) n1') upd_same
          | true =>
            refine iteN rfl ?_
            walk_at "rd"
            exact ⟨a4.trans a5, rfl, rfl⟩
        · rintro σ' H5 ⟨a5, e2, rfl⟩
          rw [if_neg (by rw [e2]; decide)] at cn
          have hsh5 := a5.same _ _ hsh
          walk_at "rd"
          refine ⟨ve, de, (rs.length : Nat), rfl, he.adv a5, sz_tupZ z4, fun H6 a6 => ?_⟩
          rw [hrl]
          walk_at "rd"
          cases e3 : rowsB (ns.length : Nat) de with
          | false =>
            refine iteY rfl ?_
            refine ⟨Nat.le_of_ble_eq_true rfl, fun a na => ⟨a, .str "right", rfl, upd_same, fun dx n1 n2 => ⟨rfl, dx, [("word", .str "right")], upd_same, ?_, ?_, ?_⟩⟩⟩
            · rw [upd_ne n2, upd_same]
            · rw [upd_ne n2] at n1
              exact n1
            · have n1' : H6 dx = none := by rw [upd_ne n2] at n1; exact n1
              exact q2 "right" (cn.trans (if_pos e3)) dx _ ((a5.trans a6).trans (adv_raise na n1')) ((a5.trans a6).free (by simp) n1') upd_same
          | true =>
            refine iteN rfl ?_
            rw [if_neg (by rw [e3]; decide)] at cn
            exact q3 cn _ (a5.trans a6)
/-! ### check_any_claim -/
def spAnyClaim (cS cC : Addr) : Sp := fun vs H Q E => ∃ x v, vs = [.str x, v] ∧ ClmP cS cC x v H Q E
theorem ok_check_any_claim (A : All K mg w) (Z : Exs K mg) (Z1 : Er_BadSheet Z) (Z3 : Er_BadClaim Z) : FnOk P w K mg base (L2N.CX P w) 7 A.check_any_claim.f A.check_any_claim.fd ["logic", "claim"] (spAnyClaim (Z.cA "BadSheet") (Z.cA "BadClaim")) := by
  refine okXN A.check_any_claim.F sc_check_any_claim (fun vs H Q E h => ?_) (fun cdv Ar outer s H vs Q E hr h => ?_)
  · obtain ⟨x, v, rfl, _⟩ := h
    rfl
  · obtain ⟨x, v, rfl, X⟩ := h
    obtain ⟨tM, mM⟩ := A.C.most
    refine ⟨_, (pss_one (ps_expr (pe_callS (ok_check_claim_to A Z Z1 Z3) (hr.mono (by omega)) rfl A.check_claim_to.m A.check_claim_to.F.kp A.check_claim_to.b (L2N.passAt (L2N.takes_of rfl rfl rfl rfl)) (pa_cons (pv 0) (pa_cons (pv 1) (pa_cons (pe_glob (v := .int 5000) rfl mM ⟨_, rfl⟩) pa_nil)))))), ?_⟩
    walk_at "rd"
    exact ⟨x, v, rfl, ⟨X.ex⟩⟩
end
end K60

set_option Elab.async false
set_option linter.all false
set_option maxRecDepth 100000
set_option maxHeartbeats 400000
namespace K60
open PySem PySem.Spec PyProof.Rows L2 LL
open C8 (pss_cut)
local macro_rules | `(tactic| walk_at "ne") => `(tactic| first | assumption | (apply Ne.symm; assumption) | exact ne_of_none (by walk_at "hp") (by assumption) | exact (ne_of_none (by walk_at "hp") (by assumption)).symm)
local macro_rules | `(tactic| walk_at "nm") => `(tactic| first | assumption | exact notin0 | exact notin1 (by walk_at "ne") | exact notin2 (by walk_at "ne") (by walk_at "ne"))
local macro_rules | `(tactic| walk_at "hp") => `(tactic| first | assumption | exact upd_same | (refine Eq.trans (upd_ne ?ne) ?hh; (case hh => walk_at "hp"); (case ne => walk_at "ne")) | (refine Adv.get' (by assumption) ?hh ?nn; (case hh => walk_at "hp"); (case nn => walk_at "nm")))
local macro_rules | `(tactic| walk_at "tp") => `(tactic| first | assumption | exact Tp.adv (by walk_at "tp") (by assumption) | exact Tp.adv (by walk_at "tp") (Adv.nil (by assumption)))
local macro_rules | `(tactic| walk_at "sq") => `(tactic| first | assumption | exact Tp.sq (by assumption) (by walk_at "tp") | exact SqT.of (by walk_at "hp"))
local macro_rules | `(tactic| walk_at "at") => `(tactic| first | exact atI_nat (j := 0) rfl | exact atI_nat (j := 1) rfl | exact atI_nat (j := 2) rfl | exact atI_nat (j := 3) rfl | exact atI_nat (by assumption) | (rw [Int.zero_add]; exact atI_nat (by assumption)))
local macro_rules | `(tactic| walk_at "bb") => `(tactic| first | assumption | decide | exact rfl)
local macro_rules | `(tactic| walk_at "ci") => `(tactic| first | omega | (dsimp only; omega) | (unfold CDiv; omega) | (unfold CMul; omega))
local macro_rules | `(tactic| walk_at "rd1") => `(tactic| first
  | with_reducible refine rd_c ?_
  | ((with_reducible refine' rd_var ?rh ?_); (case rh => exact rfl))
  | with_reducible refine rd_op ?_
  | with_reducible refine rd_seq ?_
  | with_reducible refine rd_asg ?_
  | with_reducible refine rd_gname ?_
  | with_reducible refine rd_ifS ?_
  | with_reducible refine rd_test ?_
  | with_reducible refine rd_tB ?_
  | with_reducible refine rd_blP ?_
  | ((with_reducible refine' iteY ?rh ?_); (case rh => walk_at "bb"))
  | ((with_reducible refine' iteN ?rh ?_); (case rh => walk_at "bb"))
  | with_reducible refine rd_ret ?_
  | with_reducible refine rd_nx ?_
  | ((with_reducible refine' rd_eq ?rh ?_); (case rh => exact rfl))
  | ((with_reducible refine' rd_ne ?rh ?_); (case rh => exact rfl))
  | with_reducible refine rd_add ?_
  | with_reducible refine rd_sub ?_
  | with_reducible refine rd_i0 ?_
  | with_reducible refine rd_and ?_
  | with_reducible refine rd_or ?_
  | with_reducible refine rd_not ?_
  | with_reducible refine rd_andV ?_
  | with_reducible refine rd_orV ?_
  | with_reducible refine rd_notV ?_
  | with_reducible refine rd_ifE ?_
  | with_reducible refine rd_isN ?_
  | with_reducible refine rd_notN ?_
  | with_reducible refine rd_cons ?_
  | with_reducible refine rd_nil ?_
  | with_reducible refine rd_tup ?_
  | with_reducible refine rd_lst ?_
  | with_reducible refine rd_call ?_
  | with_reducible refine rd_cb ?_
  | with_reducible refine rd_meth ?_
  | with_reducible refine rd_callS ?_
  | with_reducible refine rd_make ?_
  | with_reducible refine rd_rfl ?_
  | with_reducible refine rd_fld ?_
  | with_reducible refine rd_drop ?_
  | with_reducible refine rd_gsub ?_
  | with_reducible refine rd_gcons ?_
  | with_reducible refine rd_gnil ?_
  | with_reducible refine rd_par ?_
  | with_reducible refine rd_two ?_
  | with_reducible refine rd_par3 ?_
  | with_reducible refine rd_three ?_
  | with_reducible refine rd_int1 ?_
  | ((with_reducible refine' rd_i ?rh ?_); (case rh => walk_at "ci"))
  | with_reducible refine rd_part ?_
  | with_reducible refine rd_nopart ?_
  | with_reducible refine rd_int ?_
  | with_reducible refine rd_sl ?_
  | with_reducible refine rd_bm ?_
  | with_reducible refine rd_bm0 ?_
  | with_reducible refine rd_dgetT ?_
  | with_reducible refine rd_din ?_
  | with_reducible refine rd_dnin ?_
  | with_reducible refine rd_un ?_
  | ((with_reducible refine' rd_ixL ?rh ?re ?_); (case rh => walk_at "hp"); (case re => walk_at "at"))
  | ((with_reducible refine' rd_ixT ?rh ?re ?_); (case rh => walk_at "sq"); (case re => walk_at "at"))
  | ((with_reducible refine' rd_lenT ?rh ?_); (case rh => walk_at "sq"))
  | ((with_reducible refine' rd_tyL ?rh ?_); (case rh => walk_at "hp"))
  | ((with_reducible refine' rd_len ?rh ?_); (case rh => walk_at "hp"))
  | with_reducible refine rd_u ?_
  | ((with_reducible refine' rd_slL ?rh ?_); (case rh => walk_at "hp"))
  | with_reducible refine rd_for ?_
  | with_reducible refine rd_rng1 ?_
  | with_reducible refine rd_rng2 ?_
  | with_reducible refine rd_ints1 ?_
  | with_reducible refine rd_ints2 ?_
  | with_reducible refine rd_retN ?_)
local macro_rules | `(tactic| walk_at "rd") => `(tactic| repeat walk_at "rd1")
section
variable [KW]
variable {P : Program} {w : World} {K : PySem.W.Frag} {mg : Str → Option Value} {base : Heap}
/-! ### logics_of -/
structure LogP (cV : Addr) (v : V) (K : PySem.W.Frag) (H : Hp) (Q : VK) (E : XK) : Prop where
  ex : ∃ d : PyData, Is [] H d v ∧ (isR7 d = none → ∀ dd H', Adv [] H H' → H dd = none → H' dd = some (.xd [("name", .str "reading")]) → E (.ref cV) (some dd) H') ∧
    ∀ r, isR7 d = some r → ∀ t, KW.tp t [.str r.lo, .str r.hi] → Q (.ref t) H
def spLogicsOf (K : PySem.W.Frag) (cV : Addr) : Sp := fun vs H Q E => ∃ v, vs = [v] ∧ LogP cV v K H Q E
theorem ok_logics_of (A : All K mg w) (Z : Exs K mg) (Z2 : Er_BadValue Z) : FnOk P w K mg base (L2N.CX P w) 3 A.logics_of.f A.logics_of.fd ["reading"] (spLogicsOf K (Z.cA "BadValue")) := by
  refine okXN A.logics_of.F sc_logics_of (fun vs H Q E h => ?_) (fun cdv Ar outer s H vs Q E hr h => ?_)
  · obtain ⟨v, rfl, _⟩ := h
    rfl
  · obtain ⟨v, rfl, X⟩ := h
    obtain ⟨d, hv, q1, q2⟩ := X.ex
    obtain ⟨aL, es, n, mL2, KL, hL, hR⟩ := A.C.logof
    refine ⟨_, (pss_cons (ps_if (PW.pt (pw_or (pt_not (pt_val (pe_callB call_isi (by rfl) A.T.isinstance (by decide +kernel) (pa_cons (pv 0) (pa_cons (pe_bltn (v := .ty "str") (by rfl) A.T.str (by decide +kernel) rfl) pa_nil))))) (pw_or1 (pt_cmpR (op_notIn_kd KL) (pv 0) (pe_glob (v := .ref aL) rfl mL2 rfl) rfl))))
    (pss_one (L2N.ps_raise rfl (L2N.takes_of rfl rfl rfl rfl) (pmk_initN Z2.O Z2.I Z2.T (ok_BadValue Z2) (hr.mono (by omega)) Z2.b .nil pass0 rfl (Z.mA "BadValue" (by decide)) (pa_cons pe_str pa_nil))))
    pss_nil)
  (pss_one (ps_ret (pe_ix ix_kdict (pe_glob (v := .ref aL) rfl mL2 rfl) (pv 0) (fun _ _ => rfl))))), ?_⟩
    refine ⟨_, rfl, _, _, _, _, _, rfl, .ty _, hv.ty A.W, k_str d, _, rfl, ?_⟩
    by_cases hd : ∃ x, d = .str x
    · obtain ⟨x, rfl⟩ := hd
      cases hv.strE
      refine iteN rfl ?_
      obtain ⟨r, er, es⟩ := hL x
      refine ⟨_, rfl, x, r, rfl, rfl, er, _, rfl, ?_⟩
      rw [es]
      cases e0 : r7Of x with
      | none =>
        have e0 : isR7 (.str x) = none := e0
        refine iteY rfl ?_
        refine ⟨Nat.le_of_ble_eq_true rfl, fun a na => ⟨a, .str "reading", rfl, upd_same, fun dx n1 n2 => ⟨rfl, dx, [("name", .str "reading")], upd_same, ?_, ?_, ?_⟩⟩⟩
        · rw [upd_ne n2, upd_same]
        · rw [upd_ne n2] at n1
          exact n1
        · have n1' : H dx = none := by rw [upd_ne n2] at n1; exact n1
          exact q1 e0 dx _ (adv_raise na n1') n1' upd_same
      | some r7 =>
        refine iteN rfl ?_
        cases r7_str e0
        obtain ⟨t, ht, hs⟩ := hR r7
        refine ⟨_, rfl, aL, _, .ref t, rfl, rfl, ⟨_, _, _, KL.at_, KL.lit, ht, rfl⟩, ?_⟩
        exact q2 r7 e0 t hs
    · have e0 : isR7 d = none := by
        cases d with
        | str x => exact absurd ⟨x, rfl⟩ hd
        | _ => rfl
      have e1 : kitD d "str" = false := by
        cases d with
        | str x => exact absurd ⟨x, rfl⟩ hd
        | _ => simp [kitD, tyN]
      refine iteY (by rw [e1]; rfl) ?_
      refine iteY rfl ?_
      refine ⟨Nat.le_of_ble_eq_true rfl, fun a na => ⟨a, .str "reading", rfl, upd_same, fun dx n1 n2 => ⟨rfl, dx, [("name", .str "reading")], upd_same, ?_, ?_, ?_⟩⟩⟩
      · rw [upd_ne n2, upd_same]
      · rw [upd_ne n2] at n1
        exact n1
      · have n1' : H dx = none := by rw [upd_ne n2] at n1; exact n1
        exact q1 e0 dx _ (adv_raise na n1') n1' upd_same
/-! ### ascending -/
def spAsc : Sp := fun vs H Q _ => ∃ (a : Addr) (rows : List Nat), vs = [.ref a] ∧ H a = some (.lst (nVl rows)) ∧ rows.length ≤ 4000 ∧ ∀ p H', H p = none → H' p = some (.tup (nVl (srtN rows))) → Adv [] H H' → Q (.ref p) H'
theorem ok_ascending (A : All K mg w) : FnOk P w K mg base CX0 1 A.ascending.f A.ascending.fd ["rows"] spAsc := by
  refine A.ascending.F.ok sc_ascending (fun vs H Q E h => ?_) (fun cdv Ar outer s H vs Q E hr h => ?_)
  · obtain ⟨a, rows, rfl, _⟩ := h
    rfl
  · obtain ⟨a, rows, rfl, ha, hl, q⟩ := h
    refine ⟨_, (pss_one (ps_ret (pe_callTy call_tuple_of (by rfl) A.T.tuple (by decide +kernel) (pa_cons (pe_callB (cr_sortS rfl) (by rfl) A.T.sorted (by decide +kernel) (pa_cons (pe_callTy (cr_setL rfl) (by rfl) A.T.set (by decide +kernel) (pa_cons (pv 0) pa_nil)) pa_nil)) pa_nil)))), ?_⟩
    have e : nVl rows = (rows.map fun r => ((r : Nat) : Int)).map V.int := by unfold nVl; rw [List.map_map]; rfl
    rw [e] at ha
    refine ⟨_, rfl, a, _, rfl, .inl (SqL.of ha), by rw [List.length_map]; exact hl, fun p n _ np => ?_⟩
    refine ⟨p, _, n, rfl, upd_same, fun ns p2 hs hm _ np2 => ?_⟩
    have e2 : ns = srtU (rows.map fun r => ((r : Nat) : Int)) := srtU_of hs hm
    subst e2
    rw [nV_srt]
    refine ⟨p2, _, rfl, .inl ⟨SqL.of upd_same, fun l nl => ?_⟩⟩
    have a2 := ((Adv.new (M := []) (o := SetO w p (fun j => decide (j ∈ rows.map fun r => ((r : Nat) : Int))) n) np).newT (o := .lst (nVl (srtN rows))) np2)
    exact q l _ (a2.free (by simp) nl) upd_same (a2.newT nl)
end
end K60

set_option Elab.async false
set_option linter.all false
set_option maxRecDepth 100000
set_option maxHeartbeats 400000
namespace K60
open PySem PySem.Spec PyProof.Rows L2 LL
open C8 (pss_cut)
local macro_rules | `(tactic| walk_at "ne") => `(tactic| first | assumption | (apply Ne.symm; assumption) | exact ne_of_none (by walk_at "hp") (by assumption) | exact (ne_of_none (by walk_at "hp") (by assumption)).symm)
local macro_rules | `(tactic| walk_at "nm") => `(tactic| first | assumption | exact notin0 | exact notin1 (by walk_at "ne") | exact notin2 (by walk_at "ne") (by walk_at "ne"))
local macro_rules | `(tactic| walk_at "hp") => `(tactic| first | assumption | exact upd_same | (refine Eq.trans (upd_ne ?ne) ?hh; (case hh => walk_at "hp"); (case ne => walk_at "ne")) | (refine Adv.get' (by assumption) ?hh ?nn; (case hh => walk_at "hp"); (case nn => walk_at "nm")))
local macro_rules | `(tactic| walk_at "tp") => `(tactic| first | assumption | exact Tp.adv (by walk_at "tp") (by assumption) | exact Tp.adv (by walk_at "tp") (Adv.nil (by assumption)))
local macro_rules | `(tactic| walk_at "sq") => `(tactic| first | assumption | exact Tp.sq (by assumption) (by walk_at "tp") | exact SqT.of (by walk_at "hp"))
local macro_rules | `(tactic| walk_at "at") => `(tactic| first | exact atI_nat (j := 0) rfl | exact atI_nat (j := 1) rfl | exact atI_nat (j := 2) rfl | exact atI_nat (j := 3) rfl | exact atI_nat (by assumption) | (rw [Int.zero_add]; exact atI_nat (by assumption)))
local macro_rules | `(tactic| walk_at "bb") => `(tactic| first | assumption | decide | exact rfl)
local macro_rules | `(tactic| walk_at "ci") => `(tactic| first | omega | (dsimp only; omega) | (unfold CDiv; omega) | (unfold CMul; omega))
local macro_rules | `(tactic| walk_at "rd1") => `(tactic| first
  | with_reducible refine rd_c ?_
  | ((with_reducible refine' rd_var ?rh ?_); (case rh => exact rfl))
  | with_reducible refine rd_op ?_
  | with_reducible refine rd_seq ?_
  | with_reducible refine rd_asg ?_
  | with_reducible refine rd_gname ?_
  | with_reducible refine rd_ifS ?_
  | with_reducible refine rd_test ?_
  | with_reducible refine rd_tB ?_
  | with_reducible refine rd_blP ?_
  | ((with_reducible refine' iteY ?rh ?_); (case rh => walk_at "bb"))
  | ((with_reducible refine' iteN ?rh ?_); (case rh => walk_at "bb"))
  | with_reducible refine rd_ret ?_
  | with_reducible refine rd_nx ?_
  | ((with_reducible refine' rd_eq ?rh ?_); (case rh => exact rfl))
  | ((with_reducible refine' rd_ne ?rh ?_); (case rh => exact rfl))
  | with_reducible refine rd_add ?_
  | with_reducible refine rd_sub ?_
  | with_reducible refine rd_i0 ?_
  | with_reducible refine rd_and ?_
  | with_reducible refine rd_or ?_
  | with_reducible refine rd_not ?_
  | with_reducible refine rd_andV ?_
  | with_reducible refine rd_orV ?_
  | with_reducible refine rd_notV ?_
  | with_reducible refine rd_ifE ?_
  | with_reducible refine rd_isN ?_
  | with_reducible refine rd_notN ?_
  | with_reducible refine rd_cons ?_
  | with_reducible refine rd_nil ?_
  | with_reducible refine rd_tup ?_
  | with_reducible refine rd_lst ?_
  | with_reducible refine rd_call ?_
  | with_reducible refine rd_cb ?_
  | with_reducible refine rd_meth ?_
  | with_reducible refine rd_callS ?_
  | with_reducible refine rd_make ?_
  | with_reducible refine rd_rfl ?_
  | with_reducible refine rd_fld ?_
  | with_reducible refine rd_drop ?_
  | with_reducible refine rd_gsub ?_
  | with_reducible refine rd_gcons ?_
  | with_reducible refine rd_gnil ?_
  | with_reducible refine rd_par ?_
  | with_reducible refine rd_two ?_
  | with_reducible refine rd_par3 ?_
  | with_reducible refine rd_three ?_
  | with_reducible refine rd_int1 ?_
  | ((with_reducible refine' rd_i ?rh ?_); (case rh => walk_at "ci"))
  | with_reducible refine rd_part ?_
  | with_reducible refine rd_nopart ?_
  | with_reducible refine rd_int ?_
  | with_reducible refine rd_sl ?_
  | with_reducible refine rd_bm ?_
  | with_reducible refine rd_bm0 ?_
  | with_reducible refine rd_dgetT ?_
  | with_reducible refine rd_din ?_
  | with_reducible refine rd_dnin ?_
  | with_reducible refine rd_un ?_
  | ((with_reducible refine' rd_ixL ?rh ?re ?_); (case rh => walk_at "hp"); (case re => walk_at "at"))
  | ((with_reducible refine' rd_ixT ?rh ?re ?_); (case rh => walk_at "sq"); (case re => walk_at "at"))
  | ((with_reducible refine' rd_lenT ?rh ?_); (case rh => walk_at "sq"))
  | ((with_reducible refine' rd_tyL ?rh ?_); (case rh => walk_at "hp"))
  | ((with_reducible refine' rd_len ?rh ?_); (case rh => walk_at "hp"))
  | with_reducible refine rd_u ?_
  | ((with_reducible refine' rd_slL ?rh ?_); (case rh => walk_at "hp"))
  | with_reducible refine rd_for ?_
  | with_reducible refine rd_rng1 ?_
  | with_reducible refine rd_rng2 ?_
  | with_reducible refine rd_ints1 ?_
  | with_reducible refine rd_ints2 ?_
  | with_reducible refine rd_retN ?_)
local macro_rules | `(tactic| walk_at "rd") => `(tactic| repeat walk_at "rd1")
section
variable [KW]
variable {P : Program} {w : World} {K : PySem.W.Frag} {mg : Str → Option Value} {base : Heap}
theorem newD_grow {H : Hp} {d : Addr} {wd : W3} {ns : List Nd} {rows : List Nat} (h : H d = some (.dK (newT (belowF ns rows) (growF wd ns rows).2))) (hr : ∀ r ∈ rows, r < ns.length) : NewD H d rows (growF wd ns rows).2 :=
  ⟨_, h, fun r hr' => by rw [new_val, if_pos (below_row hr' (hr r hr'))]⟩
theorem range_rows (f : Nat → Nat) (rows : List Nat) : (List.range (nVl rows).length).map (fun i => V.int (f (rows.getD i 0) : Nat)) = nV (rows.map f) := by
  rw [nVl_len]
  unfold nV
  apply List.ext_getElem
  · simp
  · intro i h1 h2
    have hi : i < rows.length := by simpa using h2
    simp [List.getD_eq_getElem?_getD, hi]
/-! ### grown_twice -/
structure TwiceP (C : Addr) (vs : List V) (H : Hp) (Q : VK) : Prop where
  ex : ∃ (M : List Addr) (g dx b0 b1 rw_ : Addr) (ns : List Nd) (rows : List Nat), vs = [.ref g, .ref rw_] ∧ H g = some (.ins C dx (gfl b0 b1)) ∧ g ∉ M ∧ BkN M H b0 b1 ns ∧ okSheet true ns ∧ ns.length ≤ 5000 ∧
    H rw_ = some (.lst (nV rows)) ∧ rw_ ∉ M ∧ (∀ r ∈ rows, r < ns.length) ∧ rows.length ≤ 4000 ∧
    ∀ d H', H d = none → NewD H' d rows (newC .dou ns rows).2 → BkN M H' b0 b1 (newC .dou ns rows).1 → Adv [b0, b1] H H' → H' g = some (.ins C dx (gfl b0 b1)) → Q (.ref d) H'
def spTwice (C : Addr) : Sp := fun vs H Q _ => TwiceP C vs H Q
theorem ok_grown_twice (A : All K mg w) (G : Grw K mg) (R : Rds A) : FnOk P w K mg base CX0 6 A.grown_twice.f A.grown_twice.fd ["growing", "rows"] (spTwice G.C) := by
  refine A.grown_twice.F.ok sc_grown_twice (fun vs H Q E h => ?_) (fun cdv Ar outer s H vs Q E hr h => ?_)
  · obtain ⟨M, g, dx, b0, b1, rw_, ns, rows, rfl, _⟩ := h.ex
    rfl
  · obtain ⟨M, g, dx, b0, b1, rw_, ns, rows, rfl, hg, gM, B, ok, hl, hrw, rM, hrows, hl2, q⟩ := h.ex
    refine ⟨_, (pss_cons (ps_set (i := 2) sc_grown_twice.nd rfl (Or.inr rfl) (pe_call (ok_grown A G R) (hr.mono (by omega)) rfl A.grown.m A.grown.F.kp A.grown.b .nil pass0 (pa_cons (pv 0) (pa_cons (pv 1) (pa_cons pe_str pa_nil)))))
  (pss_cons (ps_set (i := 3) sc_grown_twice.nd rfl (Or.inr rfl) (pe_call (ok_grown A G R) (hr.mono (by omega)) rfl A.grown.m A.grown.F.kp A.grown.b .nil pass0 (pa_cons (pv 0) (pa_cons (pe_lc (own := [("row", 4)]) (g := gName 4) rfl sc_grown_twice.nd (pi_list (pv 1)) (blkOk_by (own := [("row", 4)]) (N := ["growing", "rows", "first", "second", "row"]) (sc := defScope s_grown_twice) (by decide +kernel)) (fun _ _ _ _ _ => pg_name (i := 4) sc_grown_twice.nd rfl (Or.inl rfl)) (fun _ _ _ _ _ => pts_nil) (fun _ _ _ _ _ => (pe_dget (hu_of hr) (pv 2) (pv 4) (fun _ _ => rfl)))) (pa_cons pe_str pa_nil)))))
  (pss_one (ps_ret (pe_dc (own := [("row", 4)]) (g := gName 4) rfl sc_grown_twice.nd (pi_list (pv 1)) (blkOk_by (own := [("row", 4)]) (N := ["growing", "rows", "first", "second", "row"]) (sc := defScope s_grown_twice) (by decide +kernel)) (fun _ _ _ _ _ => pg_name (i := 4) sc_grown_twice.nd rfl (Or.inl rfl)) (fun _ _ _ _ _ => pts_nil) (fun _ _ _ _ _ => (pv 4)) (fun _ _ _ _ _ => (pe_dget (hu_of hr) (pv 3) (pe_dget (hu_of hr) (pv 2) (pv 4) (fun _ _ => rfl)) (fun _ _ => rfl)))))))), ?_⟩
    walk_at "rd"
    have m01 : ∀ b, b ∉ M → b ∉ [b0, b1] := fun b h z => by
      rcases List.mem_cons.mp z with z | z
      · exact h (by rw [z]; exact B.m0)
      · exact h (by rw [List.mem_singleton.mp z]; exact B.m1)
    refine ⟨⟨M, g, dx, b0, b1, rw_, ns, rows, true, .box, rfl, hg, gM, B, ok, by omega, hrw, hrows, by omega, fun d1 H1 n1 hd1 B1 a1 hg1 => ?_⟩⟩
    have N1 := newD_grow hd1 hrows
    obtain ⟨ok1, lt1⟩ := growF_ok (w := .box) (.inr rfl) ok hrows
    have hrw1 := a1 _ _ (m01 _ rM) hrw
    have d1M : d1 ∉ M := fun z => B.al d1 z n1
    have len1 : (readF .box ns (belowF ns rows) ns (fun _ => 0)).1.length ≤ 9 * ns.length := growF_len .box ns rows
    walk_at "rd"
    refine ⟨_, rfl, rw_, rfl, ⟨_, SqL.of hrw1⟩, fun D nD => ?_⟩
    refine lc_mapL (K := K) (a := rw_) (xs := nVl rows) (fun i => V.int ((growF .box ns rows).2 (rows.getD i 0) : Nat)) nD (SqL.of hrw1) (by rw [nVl_len]; omega) ?_ ?_
    · intro i x H' acc T hx aH hD k
      obtain ⟨r, hr, rfl⟩ := nVl_get hx
      have er : rows.getD i 0 = r := by rw [List.getD_eq_getElem?_getD, hr]; rfl
      rw [er] at k
      have gt := (N1.same aH).get (List.mem_of_getElem? hr)
      exact ⟨rfl, _, rfl, _, rfl, d1, _, rfl, gt, k H' hD aH⟩
    · intro H' aH hD
      rw [range_rows] at hD
      have DM : D ∉ M := fun z => B1.al D z nD
      have B2 := B1.same aH
      have hg2 := aH.same _ _ hg1
      walk_at "rd"
      refine ⟨⟨M, g, dx, b0, b1, D, _, rows.map (growF .box ns rows).2, true, .dou, rfl, hg2, gM, B2, ok1, by omega, hD, fun r hr' => ?_, by rw [List.length_map]; omega, fun d2 H2 n2 hd2 B3 a2 hg3 => ?_⟩⟩
      · obtain ⟨j, hj, rfl⟩ := List.mem_map.mp hr'
        exact lt1 j hj
      have N2 := newD_grow hd2 (fun r hr' => by
        obtain ⟨j, hj, rfl⟩ := List.mem_map.mp hr'
        exact lt1 j hj)
      have N1' := (N1.same aH).adv a2 (m01 _ d1M)
      have hrw2 := a2 _ _ (m01 _ rM) (aH.same _ _ hrw1)
      walk_at "rd"
      refine ⟨_, rfl, rw_, rfl, ⟨_, SqL.of hrw2⟩, fun E nE => ?_⟩
      refine dc_rows (K := K) (a := rw_) rows (newC .dou ns rows).2 nE (SqL.of hrw2) (by omega) ?_ ?_
      · intro i r H5 T hr' a5 k
        have hm := List.mem_of_getElem? hr'
        exact ⟨rfl, _, rfl, _, rfl, _, rfl, _, rfl, d1, _, rfl, (N1'.same a5).get hm, d2, _, rfl, (N2.same a5).get (List.mem_map.mpr ⟨r, hm, rfl⟩), k⟩
      · intro H5 a5 N5
        have c := ((a1.trans (Adv.nil aH)).trans a2).trans (Adv.nil a5)
        refine q E H5 ?_ N5 (B3.same a5) c (a5.same _ _ hg3)
        have EM : E ∉ M := fun z => B3.al E z nE
        exact ((a1.trans (Adv.nil aH)).trans a2).free (m01 _ EM) nE
end
end K60

set_option Elab.async false
set_option linter.all false
set_option maxRecDepth 100000
set_option maxHeartbeats 400000
namespace K60
open PySem PySem.Spec PyProof.Rows L2 LL
open C8 (pss_cut)
local macro_rules | `(tactic| walk_at "ne") => `(tactic| first | assumption | (apply Ne.symm; assumption) | exact ne_of_none (by walk_at "hp") (by assumption) | exact (ne_of_none (by walk_at "hp") (by assumption)).symm)
local macro_rules | `(tactic| walk_at "nm") => `(tactic| first | assumption | exact notin0 | exact notin1 (by walk_at "ne") | exact notin2 (by walk_at "ne") (by walk_at "ne"))
local macro_rules | `(tactic| walk_at "hp") => `(tactic| first | assumption | exact upd_same | (refine Eq.trans (upd_ne ?ne) ?hh; (case hh => walk_at "hp"); (case ne => walk_at "ne")) | (refine Adv.get' (by assumption) ?hh ?nn; (case hh => walk_at "hp"); (case nn => walk_at "nm")))
local macro_rules | `(tactic| walk_at "tp") => `(tactic| first | assumption | exact Tp.adv (by walk_at "tp") (by assumption) | exact Tp.adv (by walk_at "tp") (Adv.nil (by assumption)))
local macro_rules | `(tactic| walk_at "sq") => `(tactic| first | assumption | exact Tp.sq (by assumption) (by walk_at "tp") | exact SqT.of (by walk_at "hp"))
local macro_rules | `(tactic| walk_at "at") => `(tactic| first | exact atI_nat (j := 0) rfl | exact atI_nat (j := 1) rfl | exact atI_nat (j := 2) rfl | exact atI_nat (j := 3) rfl | exact atI_nat (by assumption) | (rw [Int.zero_add]; exact atI_nat (by assumption)))
local macro_rules | `(tactic| walk_at "bb") => `(tactic| first | assumption | decide | exact rfl)
local macro_rules | `(tactic| walk_at "ci") => `(tactic| first | omega | (dsimp only; omega) | (unfold CDiv; omega) | (unfold CMul; omega))
local macro_rules | `(tactic| walk_at "rd1") => `(tactic| first
  | with_reducible refine rd_c ?_
  | ((with_reducible refine' rd_var ?rh ?_); (case rh => exact rfl))
  | with_reducible refine rd_op ?_
  | with_reducible refine rd_seq ?_
  | with_reducible refine rd_asg ?_
  | with_reducible refine rd_gname ?_
  | with_reducible refine rd_ifS ?_
  | with_reducible refine rd_test ?_
  | with_reducible refine rd_tB ?_
  | with_reducible refine rd_blP ?_
  | ((with_reducible refine' iteY ?rh ?_); (case rh => walk_at "bb"))
  | ((with_reducible refine' iteN ?rh ?_); (case rh => walk_at "bb"))
  | with_reducible refine rd_ret ?_
  | with_reducible refine rd_nx ?_
  | ((with_reducible refine' rd_eq ?rh ?_); (case rh => exact rfl))
  | ((with_reducible refine' rd_ne ?rh ?_); (case rh => exact rfl))
  | with_reducible refine rd_add ?_
  | with_reducible refine rd_sub ?_
  | with_reducible refine rd_i0 ?_
  | with_reducible refine rd_and ?_
  | with_reducible refine rd_or ?_
  | with_reducible refine rd_not ?_
  | with_reducible refine rd_andV ?_
  | with_reducible refine rd_orV ?_
  | with_reducible refine rd_notV ?_
  | with_reducible refine rd_ifE ?_
  | with_reducible refine rd_isN ?_
  | with_reducible refine rd_notN ?_
  | with_reducible refine rd_cons ?_
  | with_reducible refine rd_nil ?_
  | with_reducible refine rd_tup ?_
  | with_reducible refine rd_lst ?_
  | with_reducible refine rd_call ?_
  | with_reducible refine rd_cb ?_
  | with_reducible refine rd_meth ?_
  | with_reducible refine rd_callS ?_
  | with_reducible refine rd_make ?_
  | with_reducible refine rd_rfl ?_
  | with_reducible refine rd_fld ?_
  | with_reducible refine rd_drop ?_
  | with_reducible refine rd_gsub ?_
  | with_reducible refine rd_gcons ?_
  | with_reducible refine rd_gnil ?_
  | with_reducible refine rd_par ?_
  | with_reducible refine rd_two ?_
  | with_reducible refine rd_par3 ?_
  | with_reducible refine rd_three ?_
  | with_reducible refine rd_int1 ?_
  | ((with_reducible refine' rd_i ?rh ?_); (case rh => walk_at "ci"))
  | with_reducible refine rd_part ?_
  | with_reducible refine rd_nopart ?_
  | with_reducible refine rd_int ?_
  | with_reducible refine rd_sl ?_
  | with_reducible refine rd_bm ?_
  | with_reducible refine rd_bm0 ?_
  | with_reducible refine rd_dgetT ?_
  | with_reducible refine rd_din ?_
  | with_reducible refine rd_dnin ?_
  | with_reducible refine rd_un ?_
  | ((with_reducible refine' rd_ixL ?rh ?re ?_); (case rh => walk_at "hp"); (case re => walk_at "at"))
  | ((with_reducible refine' rd_ixT ?rh ?re ?_); (case rh => walk_at "sq"); (case re => walk_at "at"))
  | ((with_reducible refine' rd_lenT ?rh ?_); (case rh => walk_at "sq"))
  | ((with_reducible refine' rd_tyL ?rh ?_); (case rh => walk_at "hp"))
  | ((with_reducible refine' rd_len ?rh ?_); (case rh => walk_at "hp"))
  | with_reducible refine rd_u ?_
  | ((with_reducible refine' rd_slL ?rh ?_); (case rh => walk_at "hp"))
  | with_reducible refine rd_for ?_
  | with_reducible refine rd_rng1 ?_
  | with_reducible refine rd_rng2 ?_
  | with_reducible refine rd_ints1 ?_
  | with_reducible refine rd_ints2 ?_
  | with_reducible refine rd_retN ?_)
local macro_rules | `(tactic| walk_at "rd") => `(tactic| repeat walk_at "rd1")
section
variable [KW]
variable {P : Program} {w : World} {K : PySem.W.Frag} {mg : Str → Option Value} {base : Heap}
theorem rd_inS {Q : VK} {p : Addr} {H : Hp} {x : Str} {ws : List Str} {neg : Bool} (h : H p = some (.tup (ws.map V.str))) (q : Q (.bl (if neg = true then !(ws.any fun y => decide (x = y)) else (ws.any fun y => decide (x = y)))) H) : rIn K neg (.str x) (.ref p) H Q :=
  ⟨p, _, rfl, .inr (SqT.of h), rfl, by rw [List.all_map]; exact List.all_eq_true.mpr fun _ _ => rfl, by rw [inV_strs]; exact q⟩
def _root_.LL.R7.boxy : R7 → Bool
  | .box => true
  | .dou => true
  | _ => false
theorem r7_boxy (r : R7) : ((["boxed", "doubled"] : List Str).any fun y => decide (r.str = y)) = r.boxy := by cases r <;> decide +kernel
theorem r7_den (r : R7) : ((["negative", "denied"] : List Str).any fun y => decide (r.str = y)) = r.denies := by cases r <;> decide +kernel
theorem comp_rows {x : Str} {g lt rt d src : Addr} {rw_ : V} {y6 y7 : Option V} {i : Nat} {rows : List Nat} {f : Nat → Nat} {H : Hp} {Q : VK}
    (hi : ([some (.str x), some (.ref g), some (.ref lt), some (.ref rt), some rw_, some (.ref d), y6, y7] : L2.St)[i]? = some (some (.ref src))) (hs : SqT K H src (nVl rows)) (hN : NewD H d rows f) (hz : rows.length ≤ 1000000)
    (q : ∀ D H', H D = none → H' D = some (.lst (nV (rows.map f))) → Adv [] H H' → Q (.ref D) H') :
    tLc (iTup K (tVar i)) (gName 7) tYes (tDGet (tVar 5) (tVar 7)) (List.map (fun x => x.snd) [(("row" : Str), 7)]) [some (.str x), some (.ref g), some (.ref lt), some (.ref rt), some rw_, some (.ref d), y6, y7] H Q := by
  refine ⟨_, hi, src, rfl, ⟨_, hs⟩, fun D nD => ?_⟩
  refine lc_mapT (K := K) (a := src) (xs := nVl rows) (fun i => V.int (f (rows.getD i 0) : Nat)) nD hs (by rw [nVl_len]; exact hz) ?_ ?_
  · intro i x H' acc T hx aH hD k
    obtain ⟨r, hr, rfl⟩ := nVl_get hx
    have er : rows.getD i 0 = r := by rw [List.getD_eq_getElem?_getD, hr]; rfl
    rw [er] at k
    exact ⟨rfl, _, rfl, _, rfl, d, _, rfl, (hN.same aH).get (List.mem_of_getElem? hr), k H' hD aH⟩
  · intro H' aH hD
    rw [range_rows] at hD
    exact q D H' nD hD aH
/-! ### read_sides -/
structure SidesP (C : Addr) (vs : List V) (H : Hp) (Q : VK) : Prop where
  ex : ∃ (M : List Addr) (g dx b0 b1 lt rt : Addr) (ns : List Nd) (le ri : List Nat) (r : R7), vs = [.str r.str, .ref g, .ref lt, .ref rt] ∧ H g = some (.ins C dx (gfl b0 b1)) ∧ g ∉ M ∧ BkN M H b0 b1 ns ∧ RtC ns le ri ∧
    Tp M H lt (nVl le) ∧ Tp M H rt (nVl ri) ∧ le.length + ri.length ≤ 3000 ∧
    ∀ t l2 r2 H', H' t = some (.tup [.ref l2, .ref r2]) → Tp M H' l2 (nVl (readC r ns le ri).2.1) → Tp M H' r2 (nVl (readC r ns le ri).2.2) → BkN M H' b0 b1 (readC r ns le ri).1 → Adv [b0, b1] H H' → H' g = some (.ins C dx (gfl b0 b1)) → H t = none → Q (.ref t) H'
def spSides (C : Addr) : Sp := fun vs H Q _ => SidesP C vs H Q
theorem ok_read_sides (A : All K mg w) (G : Grw K mg) (R : Rds A) : FnOk P w K mg base CX0 7 A.read_sides.f A.read_sides.fd ["reading", "growing", "left", "right"] (spSides G.C) := by
  refine A.read_sides.F.ok sc_read_sides (fun vs H Q E h => ?_) (fun cdv Ar outer s H vs Q E hr h => ?_)
  · obtain ⟨M, g, dx, b0, b1, lt, rt, ns, le, ri, r, rfl, _⟩ := h.ex
    rfl
  · obtain ⟨M, g, dx, b0, b1, lt, rt, ns, le, ri, r, rfl, hg, gM, B, ok, hlt, hrt, hz, q⟩ := h.ex
    refine ⟨_, (pss_cons (ps_set (i := 4) sc_read_sides.nd rfl (Or.inl rfl) (pe_op op_cat (pe_callTy call_list_of (by rfl) A.T.list (by decide +kernel) (pa_cons (pv 2) pa_nil)) (pe_callTy call_list_of (by rfl) A.T.list (by decide +kernel) (pa_cons (pv 3) pa_nil))))
  (pss_cons (ps_if (pt_cmpR op_in_seq (pv 0) (pe_tup (pa_cons pe_str (pa_cons pe_str pa_nil))) rfl)
    (pss_cut (ps_set (i := 5) sc_read_sides.nd rfl (Or.inr rfl) (pe_ifExp (pt_cmpR op_eq (pv 0) pe_str (nomark _)) (pe_call (ok_grown A G R) (hr.mono (by omega)) rfl A.grown.m A.grown.F.kp A.grown.b .nil pass0 (pa_cons (pv 1) (pa_cons (pv 4) (pa_cons pe_str pa_nil)))) (pe_call (ok_grown_twice A G R) (hr.mono (by omega)) rfl A.grown_twice.m A.grown_twice.F.kp A.grown_twice.b .nil pass0 (pa_cons (pv 1) (pa_cons (pv 4) pa_nil)))))
  (pss_one (ps_ret (pe_tup (pa_cons (pe_call (ok_ascending A) (hr.mono (by omega)) rfl A.ascending.m A.ascending.F.kp A.ascending.b .nil pass0 (pa_cons (pe_lc (own := [("row", 7)]) (g := gName 7) rfl sc_read_sides.nd (pi_tup (pv 2)) (blkOk_by (own := [("row", 7)]) (N := ["reading", "growing", "left", "right", "rows", "new", "denied", "row"]) (sc := defScope s_read_sides) (by decide +kernel)) (fun _ _ _ _ _ => pg_name (i := 7) sc_read_sides.nd rfl (Or.inl rfl)) (fun _ _ _ _ _ => pts_nil) (fun _ _ _ _ _ => (pe_dget (hu_of hr) (pv 5) (pv 7) (fun _ _ => rfl)))) pa_nil)) (pa_cons (pe_call (ok_ascending A) (hr.mono (by omega)) rfl A.ascending.m A.ascending.F.kp A.ascending.b .nil pass0 (pa_cons (pe_lc (own := [("row", 7)]) (g := gName 7) rfl sc_read_sides.nd (pi_tup (pv 3)) (blkOk_by (own := [("row", 7)]) (N := ["reading", "growing", "left", "right", "rows", "new", "denied", "row"]) (sc := defScope s_read_sides) (by decide +kernel)) (fun _ _ _ _ _ => pg_name (i := 7) sc_read_sides.nd rfl (Or.inl rfl)) (fun _ _ _ _ _ => pts_nil) (fun _ _ _ _ _ => (pe_dget (hu_of hr) (pv 5) (pv 7) (fun _ _ => rfl)))) pa_nil)) pa_nil))))))
    pss_nil)
  (pss_cons (ps_if (pt_cmpR op_notIn_seq (pv 0) (pe_tup (pa_cons pe_str (pa_cons pe_str pa_nil))) rfl)
    (pss_one (ps_ret (pe_tup (pa_cons (pe_callTy call_tuple_of (by rfl) A.T.tuple (by decide +kernel) (pa_cons (pv 2) pa_nil)) (pa_cons (pe_callTy call_tuple_of (by rfl) A.T.tuple (by decide +kernel) (pa_cons (pv 3) pa_nil)) pa_nil)))))
    pss_nil)
  (pss_cut (ps_set (i := 5) sc_read_sides.nd rfl (Or.inr rfl) (pe_ifExp (pt_cmpR op_eq (pv 0) pe_str (nomark _)) (pe_call (ok_grown A G R) (hr.mono (by omega)) rfl A.grown.m A.grown.F.kp A.grown.b .nil pass0 (pa_cons (pv 1) (pa_cons (pv 4) (pa_cons pe_str pa_nil)))) (pe_dc (own := [("row", 7)]) (g := gName 7) rfl sc_read_sides.nd (pi_list (pv 4)) (blkOk_by (own := [("row", 7)]) (N := ["reading", "growing", "left", "right", "rows", "new", "denied", "row"]) (sc := defScope s_read_sides) (by decide +kernel)) (fun _ _ _ _ _ => pg_name (i := 7) sc_read_sides.nd rfl (Or.inl rfl)) (fun _ _ _ _ _ => pts_nil) (fun _ _ _ _ _ => (pv 7)) (fun _ _ _ _ _ => (pv 7)))))
  (pss_cons (ps_setLc (i := 6) (own := [("row", 7)]) (g := gName 7) rfl sc_read_sides.nd rfl rfl (sw_true rfl rfl rfl (by decide +kernel)) (pi_tup (pv 3)) (blkOk_by (own := [("row", 7)]) (N := ["reading", "growing", "left", "right", "rows", "new", "denied", "row"]) (sc := defScope s_read_sides) (by decide +kernel)) (fun _ _ _ _ _ => pg_name (i := 7) sc_read_sides.nd rfl (Or.inl rfl)) (fun _ _ _ _ _ => pts_nil) (fun _ _ _ _ _ => (pe_meth (pv 1) G.cl G.mD (ok_deny A G) (hr.mono (by omega)) G.bD .nil pass0 (pa_cons (pe_dget (hu_of hr) (pv 5) (pv 7) (fun _ _ => rfl)) pa_nil))))
  (pss_one (ps_ret (pe_tup (pa_cons (pe_call (ok_ascending A) (hr.mono (by omega)) rfl A.ascending.m A.ascending.F.kp A.ascending.b .nil pass0 (pa_cons (pe_op op_cat (pe_lc (own := [("row", 7)]) (g := gName 7) rfl sc_read_sides.nd (pi_tup (pv 2)) (blkOk_by (own := [("row", 7)]) (N := ["reading", "growing", "left", "right", "rows", "new", "denied", "row"]) (sc := defScope s_read_sides) (by decide +kernel)) (fun _ _ _ _ _ => pg_name (i := 7) sc_read_sides.nd rfl (Or.inl rfl)) (fun _ _ _ _ _ => pts_nil) (fun _ _ _ _ _ => (pe_dget (hu_of hr) (pv 5) (pv 7) (fun _ _ => rfl)))) (pv 6)) pa_nil)) (pa_cons (pe_tup pa_nil) pa_nil)))))))))), ?_⟩
    have sl := hlt.sq A.W
    have sr := hrt.sq A.W
    walk_at "rd"
    intro l1 n1
    have a1 : Adv [] H (upd H l1 (.lst (nVl le))) := Adv.new n1
    have sr1 := SqT.adv a1 sr
    walk_at "rd"
    intro l2 n2
    have a2 : Adv [] H (upd (upd H l1 (.lst (nVl le))) l2 (.lst (nVl ri))) := a1.newT n2
    refine rd_cat (H := upd (upd H l1 (.lst (nVl le))) l2 (.lst (nVl ri))) ((upd_ne (ne_of_none (upd_same (H := H)) n2)).trans upd_same) upd_same (by rw [nVl_len, nVl_len, sizeLine_eq]; omega) (fun rw_ n3 => ?_)
    have a3 : Adv [] H (upd (upd (upd H l1 (.lst (nVl le))) l2 (.lst (nVl ri))) rw_ (.lst (nVl le ++ nVl ri))) := a2.newT n3
    have hrw0 : (upd (upd (upd H l1 (.lst (nVl le))) l2 (.lst (nVl ri))) rw_ (.lst (nVl le ++ nVl ri))) rw_ = some (.lst (nV (le ++ ri))) := by
      rw [upd_same]
      unfold nVl nV
      rw [List.map_append]
    generalize hHa : (upd (upd (upd H l1 (.lst (nVl le))) l2 (.lst (nVl ri))) rw_ (.lst (nVl le ++ nVl ri))) = Ha at a3 hrw0
    have nrw : H rw_ = none := a2.free (by simp) n3
    have rM : rw_ ∉ M := fun z => B.al _ z nrw
    walk_at "rd"
    refine ⟨by show 2 ≤ sizeLine; decide, fun p np => rd_inS (ws := ["boxed", "doubled"]) upd_same ?_⟩
    rw [if_neg Bool.false_ne_true, r7_boxy]
    have a4 : Adv [] H (upd Ha p (.tup [.str "boxed", .str "doubled"])) := a3.newT np
    have hrw : (upd Ha p (.tup [.str "boxed", .str "doubled"])) rw_ = some (.lst (nV (le ++ ri))) := (Adv.new (M := []) np).same _ _ hrw0
    generalize (upd Ha p (.tup [.str "boxed", .str "doubled"])) = Hb at a4 hrw
    have Bb := B.same a4
    have hgb := a4.same _ _ hg
    have hrows : ∀ i ∈ le ++ ri, i < ns.length := fun i hi => by
      rcases List.mem_append.mp hi with h | h
      · exact ok.bl i h
      · exact ok.br i h
    have hl3 : (le ++ ri).length ≤ 3000 := by rw [List.length_append]; exact hz
    have okt := ok_true ok.ok
    have hns := ok.hl
    have m01 : ∀ b, b ∉ M → b ∉ [b0, b1] := fun b h z => by
      rcases List.mem_cons.mp z with z | z
      · exact h (by rw [z]; exact B.m0)
      · exact h (by rw [List.mem_singleton.mp z]; exact B.m1)
    have len1 := newC_len r ns (le ++ ri)
    have mM : ∀ b ∈ [b0, b1], b ∈ M := by simp [B.m0, B.m1]
    walk_at "rd"
    refine iteB (fun e => ?_) (fun e => ?_)
    · have ed : r.denies = false := by cases r <;> first | rfl | cases e
      have e3 : (readC r ns le ri) = ((newC r ns (le ++ ri)).1, srtN (le.map (newC r ns (le ++ ri)).2), srtN (ri.map (newC r ns (le ++ ri)).2)) := by unfold readC; rw [if_neg (by rw [ed]; decide)]
      rw [e3] at q
      refine ⟨fun σ' H' => ∃ d, σ' = [some (.str r.str), some (.ref g), some (.ref lt), some (.ref rt), some (.ref rw_), some (.ref d), none, none] ∧ NewD H' d (le ++ ri) (newC r ns (le ++ ri)).2 ∧ BkN M H' b0 b1 (newC r ns (le ++ ri)).1 ∧ Adv [b0, b1] H H' ∧ H' g = some (.ins G.C dx (gfl b0 b1)), ?_, ?_⟩
      · cases r <;> first | cases e | skip
        · walk_at "rd"
          refine ⟨⟨M, g, dx, b0, b1, rw_, ns, le ++ ri, true, .box, rfl, hgb, gM, Bb, okt, by omega, hrw, hrows, by omega, fun d H2 nd hd B2 a5 hg2 => ?_⟩⟩
          exact ⟨d, rfl, newD_grow hd hrows, B2, (Adv.nil a4).trans a5, hg2⟩
        · walk_at "rd"
          refine ⟨⟨M, g, dx, b0, b1, rw_, ns, le ++ ri, rfl, hgb, gM, Bb, okt, by omega, hrw, rM, hrows, by omega, fun d H2 nd hd B2 a5 hg2 => ?_⟩⟩
          exact ⟨d, rfl, hd, B2, (Adv.nil a4).trans a5, hg2⟩
      · rintro σ' H2 ⟨d, rfl, hd, B2, a5, hg2⟩
        have sl2 := (hlt.adv (a5.more mM)).sq A.W
        have tr2 := hrt.adv (a5.more mM)
        walk_at "rd"
        refine comp_rows (i := 2) rfl sl2 (hd.sub fun i hi => List.mem_append_left _ hi) (by omega) (fun D H3 nD hD a6 => ?_)
        walk_at "rd"
        refine ⟨D, _, rfl, hD, by rw [List.length_map]; omega, fun t1 H4 nt1 ht1 a7 => ?_⟩
        have a67 := a6.trans a7
        walk_at "rd"
        refine comp_rows (i := 3) rfl ((tr2.adv (Adv.nil a67)).sq A.W) ((hd.same a67).sub fun i hi => List.mem_append_right _ hi) (by omega) (fun D2 H5 nD2 hD2 a8 => ?_)
        walk_at "rd"
        refine ⟨D2, _, rfl, hD2, by rw [List.length_map]; omega, fun t2 H6 nt2 ht2 a9 => ?_⟩
        walk_at "rd"
        refine ⟨by show 2 ≤ sizeLine; decide, fun t nt => ?_⟩
        have a10 : Adv [] H2 (upd H6 t (.tup [.ref t1, .ref t2])) := ((a67.trans a8).trans a9).newT nt
        have f1 : H3 t1 = none := nt1
        have t1M : t1 ∉ M := fun z => B2.al _ z (a6.free (by simp) nt1)
        have t2M : t2 ∉ M := fun z => B2.al _ z ((a67.trans a8).free (by simp) nt2)
        have tM : t ∉ M := fun z => B2.al _ z (((a67.trans a8).trans a9).free (by simp) nt)
        refine q t t1 t2 _ upd_same (.inl ⟨t1M, ?_⟩) (.inl ⟨t2M, ?_⟩) (B2.same a10) (a5.trans (Adv.nil a10)) (a10.same _ _ hg2) ?_
        · exact (Adv.new (M := []) nt).same _ _ ((a8.trans a9).same _ _ ht1)
        · exact (Adv.new (M := []) nt).same _ _ ht2
        · exact a5.free (m01 _ tM) (((a67.trans a8).trans a9).free (by simp) nt)
    · walk_at "rd"
      refine ⟨by show 2 ≤ sizeLine; decide, fun p2 np2 => rd_inS (ws := ["negative", "denied"]) upd_same ?_⟩
      rw [if_pos rfl, r7_den]
      have hrw5 : (upd Hb p2 (.tup [.str "negative", .str "denied"])) rw_ = some (.lst (nV (le ++ ri))) := (Adv.new (M := []) np2).same _ _ hrw
      have a5 : Adv [] H (upd Hb p2 (.tup [.str "negative", .str "denied"])) := a4.newT np2
      generalize (upd Hb p2 (.tup [.str "negative", .str "denied"])) = Hc at a5 hrw5
      have Bc := B.same a5
      have hgc := a5.same _ _ hg
      walk_at "rd"
      refine iteB (fun e2 => ?_) (fun e2 => ?_)
      · have e4 : readC r ns le ri = (ns, le, ri) := by
          have e5 : newC r ns (le ++ ri) = (ns, fun i => i) := by cases r <;> first | rfl | exact absurd e (by decide) | exact absurd e2 (by decide)
          unfold readC
          rw [if_neg (by cases h : r.denies <;> simp_all), e5]
          show (ns, srtN (le.map fun i => i), srtN (ri.map fun i => i)) = _
          rw [List.map_id', List.map_id', srtN_id ok.al, srtN_id ok.ar]
        rw [e4] at q
        have sl5 := SqT.adv a5 sl
        have sr5 := SqT.adv a5 sr
        walk_at "rd"
        refine ⟨lt, _, rfl, .inr ⟨sl5, ?_⟩⟩
        walk_at "rd"
        refine ⟨rt, _, rfl, .inr ⟨sr5, ?_⟩⟩
        walk_at "rd"
        refine ⟨by show 2 ≤ sizeLine; decide, fun t nt => ?_⟩
        have a6 := a5.newT (o := .tup [.ref lt, .ref rt]) nt
        exact q t lt rt _ upd_same (hlt.adv (Adv.nil a6)) (hrt.adv (Adv.nil a6)) (B.same a6) (Adv.nil a6) (a6.same _ _ hg) (a5.free (by simp) nt)
      · have e2 : r.denies = true := by cases h : r.denies <;> simp_all
        have e3 : (readC r ns le ri) = ((denyL (newC r ns (le ++ ri)).1 (ri.map (newC r ns (le ++ ri)).2)).2, srtN (le.map (newC r ns (le ++ ri)).2 ++ (denyL (newC r ns (le ++ ri)).1 (ri.map (newC r ns (le ++ ri)).2)).1), []) := by unfold readC; rw [if_pos e2]
        rw [e3] at q
        walk_at "rd"
        refine ⟨fun σ' H' => ∃ d, σ' = [some (.str r.str), some (.ref g), some (.ref lt), some (.ref rt), some (.ref rw_), some (.ref d), none, none] ∧ NewD H' d (le ++ ri) (newC r ns (le ++ ri)).2 ∧ BkN M H' b0 b1 (newC r ns (le ++ ri)).1 ∧ Adv [b0, b1] H H' ∧ H' g = some (.ins G.C dx (gfl b0 b1)) ∧ H d = none, ?_, ?_⟩
        · cases r <;> first | cases e2 | skip
          · walk_at "rd"
            refine ⟨⟨M, g, dx, b0, b1, rw_, ns, le ++ ri, true, .neg, rfl, hgc, gM, Bc, okt, by omega, hrw5, hrows, by omega, fun d H2 nd hd B2 a6 hg2 => ?_⟩⟩
            exact ⟨d, rfl, newD_grow hd hrows, B2, (Adv.nil a5).trans a6, hg2, a5.free (by simp) nd⟩
          · walk_at "rd"
            refine ⟨_, rfl, rw_, rfl, ⟨_, SqL.of hrw5⟩, fun E nE => ?_⟩
            refine dc_rows (K := K) (a := rw_) (le ++ ri) (fun i => i) nE (SqL.of hrw5) (by omega) ?_ ?_
            · intro i r H5 T hr' a6 k
              exact ⟨rfl, _, rfl, _, rfl, k⟩
            · intro H5 a6 N5
              exact ⟨E, rfl, N5, Bc.same a6, Adv.nil (a5.trans a6), a6.same _ _ hgc, a5.free (by simp) nE⟩
        · rintro σ' H2 ⟨d, rfl, hd, B2, a6, hg2, nd⟩
          have dM : d ∉ M := fun z => B.al d z nd
          have sr2 := (hrt.adv (a6.more mM)).sq A.W
          have sl2 := hlt.adv (a6.more mM)
          have hdl := hd.sub (rows' := le) fun i hi => List.mem_append_left _ hi
          have hdr := hd.sub (rows' := ri) fun i hi => List.mem_append_right _ hi
          obtain ⟨ns1, f, en⟩ : ∃ ns1 f, newC r ns (le ++ ri) = (ns1, f) := ⟨_, _, rfl⟩
          rw [en] at q B2 hdl hdr len1
          dsimp only at q B2 hdl hdr len1
          have nod : (gfl b0 b1).lookup ("deny" : Str) = none := gfl_no _ _ (by decide +kernel) (by decide +kernel)
          walk_at "rd"
          refine ⟨_, rfl, rt, rfl, ⟨_, sr2⟩, fun D nD => ?_⟩
          have DM : D ∉ M := fun z => B2.al _ z nD
          have dD : d ≠ D := fun z => by
            obtain ⟨kvs, h, _⟩ := hd
            rw [z, nD] at h
            cases h
          have gD : g ≠ D := ne_of_none hg2 nD
          refine lc_tup (K := K) (a := rt) (xs := nVl ri) (tt := tYes) (fun i H' => Adv [b0, b1] H2 H' ∧ BkN (D :: M) H' b0 b1 (denyL ns1 ((ri.map f).take i)).2 ∧ H' D = some (.lst (nV (denyL ns1 ((ri.map f).take i)).1)) ∧ H' g = some (.ins G.C dx (gfl b0 b1)))
            ⟨Adv.nil (Adv.new nD), B2.fresh nD, upd_same, (Adv.new (M := []) nD).same _ _ hg2⟩ (fun i H' _ p => ?_) (fun i x H' hx p => ?_) (fun H' p => ?_)
          · exact ((hrt.adv (a6.more mM)).adv (p.1.more mM)).sq A.W
          · obtain ⟨a7, B7, hD7, hg7⟩ := p
            obtain ⟨j, hj, rfl⟩ := nVl_get hx
            have hji : i < ri.length := (List.getElem?_eq_some_iff.mp hj).1
            have hlen := denyL_len ((ri.map f).take i) ns1
            have htk : ((ri.map f).take i).length ≤ 3000 := by rw [List.length_take, List.length_map]; omega
            have l1 := denyL_len1 ((ri.map f).take i) ns1
            refine ⟨rfl, _, rfl, g, dx, _, rfl, hg7, nod, _, rfl, _, rfl, d, _, rfl, (hdr.adv a7 (m01 _ dM)).get (List.mem_of_getElem? hj), ?_⟩
            refine ⟨⟨D :: M, g, dx, b0, b1, _, f j, rfl, hg7, by simp [gD, gM], B7, by omega, fun H8 B8 a8 hg8 => ?_⟩⟩
            have hD8 := a8 _ _ (m01 _ DM) hD7
            refine ⟨_, hD8, by unfold nV; rw [List.length_map, sizeLine_eq]; omega, ?_, ?_, ?_, ?_⟩
            · exact (a7.trans a8).mut nD
            · have et : (ri.map f).take (i + 1) = (ri.map f).take i ++ [f j] := by rw [List.take_succ, List.getElem?_map, hj]; rfl
              rw [et, denyL_snoc]
              exact B8.adv (N := [D]) (Adv.set (by simp)) (notin1 fun z => DM (by rw [← z]; exact B2.m0)) (notin1 fun z => DM (by rw [← z]; exact B2.m1)) (by simp) (fun b hb => by rw [List.mem_singleton.mp hb, upd_same]; simp)
            · have et : (ri.map f).take (i + 1) = (ri.map f).take i ++ [f j] := by rw [List.take_succ, List.getElem?_map, hj]; rfl
              rw [et, denyL_snoc, upd_same]
              unfold nV
              rw [List.map_append]
              rfl
            · rw [upd_ne gD]; exact hg8
          · obtain ⟨a7, B7, hD7, hg7⟩ := p
            have et : (ri.map f).take (nVl ri).length = ri.map f := by rw [nVl_len, ← List.length_map (f := f), List.take_length]
            rw [et] at B7 hD7
            have B7 := B7.less (N := M) (by simp +contextual) B2.m0 B2.m1
            have l1 := denyL_len1 (ri.map f) ns1
            rw [List.length_map] at l1
            have hd7 := hdl.adv a7 (m01 _ dM)
            have sl7 := (sl2.adv (a7.more mM)).sq A.W
            walk_at "rd"
            refine comp_rows (i := 2) rfl sl7 hd7 (by omega) (fun D2 H8 nD2 hD2 a8 => ?_)
            have hD8 := a8.same _ _ hD7
            walk_at "rd"
            refine rd_cat hD2 hD8 (by unfold nV; rw [List.length_map, List.length_map, List.length_map, sizeLine_eq]; omega) (fun D3 nD3 => ?_)
            have a9 := a8.newT (o := .lst (nV (le.map f) ++ nV (denyL ns1 (ri.map f)).1)) nD3
            walk_at "rd"
            refine ⟨D3, le.map f ++ (denyL ns1 (ri.map f)).1, rfl, ?_, by rw [List.length_append, List.length_map]; omega, fun t1 H10 nt1 ht1 a10 => ?_⟩
            · rw [upd_same]
              unfold nV nVl
              rw [List.map_append]
            have a11 := a9.trans a10
            walk_at "rd"
            refine ⟨Nat.zero_le _, fun em nem => ?_⟩
            have a12 := a11.newT (o := .tup []) nem
            walk_at "rd"
            refine ⟨by show 2 ≤ sizeLine; decide, fun t nt => ?_⟩
            have a13 := a12.newT (o := .tup [.ref t1, .ref em]) nt
            have t1M : t1 ∉ M := fun z => B7.al _ z (a9.free (by simp) nt1)
            have emM : em ∉ M := fun z => B7.al _ z (a11.free (by simp) nem)
            have tM : t ∉ M := fun z => B7.al _ z (a12.free (by simp) nt)
            refine q t t1 em _ upd_same (.inl ⟨t1M, ?_⟩) (.inl ⟨emM, ?_⟩) (B7.same a13) ((a6.trans a7).trans (Adv.nil a13)) (a13.same _ _ hg7) ?_
            · exact ((Adv.new (M := []) nem).newT nt).same _ _ ht1
            · exact (Adv.new (M := []) nt).same _ _ upd_same
            · exact a6.free (m01 _ tM) (a7.free (m01 _ tM) (a12.free (by simp) nt))
end
end K60

set_option Elab.async false
set_option linter.all false
set_option maxRecDepth 100000
set_option maxHeartbeats 400000
namespace K60
open PySem PySem.Spec PyProof.Rows L2 LL
open C8 (pss_cut)
local macro_rules | `(tactic| walk_at "ne") => `(tactic| first | assumption | (apply Ne.symm; assumption) | exact ne_of_none (by walk_at "hp") (by assumption) | exact (ne_of_none (by walk_at "hp") (by assumption)).symm)
local macro_rules | `(tactic| walk_at "nm") => `(tactic| first | assumption | exact notin0 | exact notin1 (by walk_at "ne") | exact notin2 (by walk_at "ne") (by walk_at "ne"))
local macro_rules | `(tactic| walk_at "hp") => `(tactic| first | assumption | exact upd_same | (refine Eq.trans (upd_ne ?ne) ?hh; (case hh => walk_at "hp"); (case ne => walk_at "ne")) | (refine Adv.get' (by assumption) ?hh ?nn; (case hh => walk_at "hp"); (case nn => walk_at "nm")))
local macro_rules | `(tactic| walk_at "tp") => `(tactic| first | assumption | exact Tp.adv (by walk_at "tp") (by assumption) | exact Tp.adv (by walk_at "tp") (Adv.nil (by assumption)))
local macro_rules | `(tactic| walk_at "sq") => `(tactic| first | assumption | exact Tp.sq (by assumption) (by walk_at "tp") | exact SqT.of (by walk_at "hp"))
local macro_rules | `(tactic| walk_at "at") => `(tactic| first | exact atI_nat (j := 0) rfl | exact atI_nat (j := 1) rfl | exact atI_nat (j := 2) rfl | exact atI_nat (j := 3) rfl | exact atI_nat (by assumption) | (rw [Int.zero_add]; exact atI_nat (by assumption)))
local macro_rules | `(tactic| walk_at "bb") => `(tactic| first | assumption | decide | exact rfl)
local macro_rules | `(tactic| walk_at "ci") => `(tactic| first | omega | (dsimp only; omega) | (unfold CDiv; omega) | (unfold CMul; omega))
local macro_rules | `(tactic| walk_at "rd1") => `(tactic| first
  | with_reducible refine rd_c ?_
  | ((with_reducible refine' rd_var ?rh ?_); (case rh => exact rfl))
  | with_reducible refine rd_op ?_
  | with_reducible refine rd_seq ?_
  | with_reducible refine rd_asg ?_
  | with_reducible refine rd_gname ?_
  | with_reducible refine rd_ifS ?_
  | with_reducible refine rd_test ?_
  | with_reducible refine rd_tB ?_
  | with_reducible refine rd_blP ?_
  | ((with_reducible refine' iteY ?rh ?_); (case rh => walk_at "bb"))
  | ((with_reducible refine' iteN ?rh ?_); (case rh => walk_at "bb"))
  | with_reducible refine rd_ret ?_
  | with_reducible refine rd_nx ?_
  | ((with_reducible refine' rd_eq ?rh ?_); (case rh => exact rfl))
  | ((with_reducible refine' rd_ne ?rh ?_); (case rh => exact rfl))
  | with_reducible refine rd_add ?_
  | with_reducible refine rd_sub ?_
  | with_reducible refine rd_i0 ?_
  | with_reducible refine rd_and ?_
  | with_reducible refine rd_or ?_
  | with_reducible refine rd_not ?_
  | with_reducible refine rd_andV ?_
  | with_reducible refine rd_orV ?_
  | with_reducible refine rd_notV ?_
  | with_reducible refine rd_ifE ?_
  | with_reducible refine rd_isN ?_
  | with_reducible refine rd_notN ?_
  | with_reducible refine rd_cons ?_
  | with_reducible refine rd_nil ?_
  | with_reducible refine rd_tup ?_
  | with_reducible refine rd_lst ?_
  | with_reducible refine rd_call ?_
  | with_reducible refine rd_cb ?_
  | with_reducible refine rd_meth ?_
  | with_reducible refine rd_callS ?_
  | with_reducible refine rd_make ?_
  | with_reducible refine rd_rfl ?_
  | with_reducible refine rd_fld ?_
  | with_reducible refine rd_drop ?_
  | with_reducible refine rd_gsub ?_
  | with_reducible refine rd_gcons ?_
  | with_reducible refine rd_gnil ?_
  | with_reducible refine rd_par ?_
  | with_reducible refine rd_two ?_
  | with_reducible refine rd_par3 ?_
  | with_reducible refine rd_three ?_
  | with_reducible refine rd_int1 ?_
  | ((with_reducible refine' rd_i ?rh ?_); (case rh => walk_at "ci"))
  | with_reducible refine rd_part ?_
  | with_reducible refine rd_nopart ?_
  | with_reducible refine rd_int ?_
  | with_reducible refine rd_sl ?_
  | with_reducible refine rd_bm ?_
  | with_reducible refine rd_bm0 ?_
  | with_reducible refine rd_dgetT ?_
  | with_reducible refine rd_din ?_
  | with_reducible refine rd_dnin ?_
  | with_reducible refine rd_un ?_
  | ((with_reducible refine' rd_ixL ?rh ?re ?_); (case rh => walk_at "hp"); (case re => walk_at "at"))
  | ((with_reducible refine' rd_ixT ?rh ?re ?_); (case rh => walk_at "sq"); (case re => walk_at "at"))
  | ((with_reducible refine' rd_lenT ?rh ?_); (case rh => walk_at "sq"))
  | ((with_reducible refine' rd_tyL ?rh ?_); (case rh => walk_at "hp"))
  | ((with_reducible refine' rd_len ?rh ?_); (case rh => walk_at "hp"))
  | with_reducible refine rd_u ?_
  | ((with_reducible refine' rd_slL ?rh ?_); (case rh => walk_at "hp"))
  | with_reducible refine rd_for ?_
  | with_reducible refine rd_rng1 ?_
  | with_reducible refine rd_rng2 ?_
  | with_reducible refine rd_ints1 ?_
  | with_reducible refine rd_ints2 ?_
  | with_reducible refine rd_retN ?_)
local macro_rules | `(tactic| walk_at "rd") => `(tactic| repeat walk_at "rd1")
section
variable [KW]
variable {P : Program} {w : World} {K : PySem.W.Frag} {mg : Str → Option Value} {base : Heap}
/-- a new claim -/
structure ClOut (M : List Addr) (H H' : Hp) (t : Addr) (ns : List Nd) (l r : List Nat) : Prop where
  ex : ∃ (L e l2 r2 : Addr) (rs : List V), H' t = some (.tup [.ref L, .ref e, .ref l2, .ref r2]) ∧ H' L = some (.lst rs) ∧ IsDs (L :: M) H' (ns.map Nd.data) rs ∧ Tp M H' e [] ∧ Tp M H' l2 (nVl l) ∧ Tp M H' r2 (nVl r) ∧ H L = none ∧ H t = none
theorem ClOut.adv {M : List Addr} {H H' H2 : Hp} {t : Addr} {ns : List Nd} {l r : List Nat} (x : ClOut M H H' t ns l r) (a : Adv [] H' H2) : ClOut M H H2 t ns l r := by
  obtain ⟨L, e, l2, r2, rs, h1, h2, h3, h4, h5, h6, h7, h8⟩ := x.ex
  exact ⟨L, e, l2, r2, rs, a.same _ _ h1, a.same _ _ h2, h3.adv (Adv.nil a), h4.adv (Adv.nil a), h5.adv (Adv.nil a), h6.adv (Adv.nil a), h7, h8⟩
theorem ClOut.is {M : List Addr} {H H' : Hp} {t : Addr} {ns : List Nd} {l r : List Nat} (x : ClOut M H H' t ns l r) (al : ∀ b ∈ M, H b ≠ none) : Is M H' (clD ns l r) (.ref t) := by
  obtain ⟨L, e, l2, r2, rs, h1, h2, h3, h4, h5, h6, h7, h8⟩ := x.ex
  have LM : L ∉ M := fun z => al L z h7
  have tM : t ∉ M := fun z => al t z h8
  exact Is.tup h1 tM (.cons (Is.lst h2 LM (h3.less (by simp +contextual))) (.cons (Is.tp h4 .nil) (.cons (Is.tp h5 (nD_is _)) (.cons (Is.tp h6 (nD_is _)) .nil))))
/-! ### read_claim_of -/
structure RdClP (vs : List V) (H : Hp) (Q : VK) : Prop where
  ex : ∃ (M : List Addr) (cl sh lt rt : Addr) (th : V) (rs : List V) (ns : List Nd) (le ri : List Nat) (r : R7), vs = [.str r.str, .ref cl] ∧ (∀ b ∈ M, H b ≠ none) ∧ Tp M H cl [.ref sh, th, .ref lt, .ref rt] ∧ H sh = some (.lst rs) ∧ IsDs M H (ns.map Nd.data) rs ∧
    Tp M H lt (nVl le) ∧ Tp M H rt (nVl ri) ∧ RtC ns le ri ∧ le.length + ri.length ≤ 3000 ∧
    ∀ t H', ClOut M H H' t (readC r ns le ri).1 (readC r ns le ri).2.1 (readC r ns le ri).2.2 → Adv [] H H' → Q (.ref t) H'
def spReadClaimOf : Sp := fun vs H Q _ => RdClP vs H Q
theorem ok_read_claim_of (A : All K mg w) (G : Grw K mg) (R : Rds A) : FnOk P w K mg base CX0 8 A.read_claim_of.f A.read_claim_of.fd ["reading", "claim"] spReadClaimOf := by
  refine A.read_claim_of.F.ok sc_read_claim_of (fun vs H Q E h => ?_) (fun cdv Ar outer s H vs Q E hr h => ?_)
  · obtain ⟨M, cl, sh, lt, rt, th, rs, ns, le, ri, r, rfl, _⟩ := h.ex
    rfl
  · obtain ⟨M, cl, sh, lt, rt, th, rs, ns, le, ri, r, rfl, al, hcl, hsh, rd, hlt, hrt, ok, hz, q⟩ := h.ex
    refine ⟨_, (pss_cons (ps_set (i := 2) sc_read_claim_of.nd rfl (Or.inl rfl) (pe_make G.mkc (ok_g_init A G) (hr.mono (by omega)) rfl G.m G.bI .nil pass0 (pa_cons (pe_ix ix_tup (pv 1) pe_int (fun _ _ => rfl)) pa_nil)))
  (pss_cons (ps_asg (pe_call (ok_read_sides A G R) (hr.mono (by omega)) rfl A.read_sides.m A.read_sides.F.kp A.read_sides.b .nil pass0 (pa_cons (pv 0) (pa_cons (pv 2) (pa_cons (pe_ix ix_tup (pv 1) pe_int (fun _ _ => rfl)) (pa_cons (pe_ix ix_tup (pv 1) pe_int (fun _ _ => rfl)) pa_nil))))) (pg_tup rfl (pgs_cons (pg_name (i := 3) sc_read_claim_of.nd rfl (Or.inl rfl)) (pgs_cons (pg_name (i := 4) sc_read_claim_of.nd rfl (Or.inl rfl)) pgs_nil))))
  (pss_one (ps_ret (pe_tup (pa_cons (pe_fld (pv 2) rfl) (pa_cons (pe_tup pa_nil) (pa_cons (pv 3) (pa_cons (pv 4) pa_nil))))))))), ?_⟩
    have scl := hcl.sq A.W
    walk_at "rd"
    intro g dx ng ndx dg
    have aG : Adv [] H (upd (upd H dx (.own g)) g (.ins G.C dx [])) := (Adv.new ndx).newT (by rw [upd_ne dg.symm]; exact ng)
    have hns := ok.hl
    refine ⟨⟨M, g, dx, sh, rs, ns, rfl, upd_same, aG.same _ _ hsh, (rd.fresh ng).adv (Adv.nil aG), alloc_adv al aG (by simp), ok.ok.1, by omega, fun b0 b1 H2 n0 n1 B hg a2 => ⟨rfl, ?_⟩⟩⟩
    have n0' : H b0 = none := aG.free (by simp) n0
    have n1' : H b1 = none := aG.free (by simp) n1
    have ag : Adv [g] H H2 := (Adv.nil aG).trans a2
    have a12 : Adv [] H H2 := ag.drop ng
    have gb : g ∉ b0 :: b1 :: M := fun z => by
      rcases List.mem_cons.mp z with z | z
      · rw [← z, upd_same] at n0; cases n0
      · rcases List.mem_cons.mp z with z | z
        · rw [← z, upd_same] at n1; cases n1
        · exact al g z ng
    have scl2 := SqT.adv a12 scl
    have hlt2 := ((hlt.fresh n1').fresh n0').adv (Adv.nil a12)
    have hrt2 := ((hrt.fresh n1').fresh n0').adv (Adv.nil a12)
    walk_at "rd"
    refine ⟨⟨b0 :: b1 :: M, g, dx, b0, b1, lt, rt, ns, le, ri, r, rfl, hg, gb, B, ok, hlt2, hrt2, hz, fun t l2 r2 H3 ht hl2 hr2 B3 a3 hg3 nt => ?_⟩⟩
    walk_at "rd"
    refine rd_gtup (SqT.of ht) rfl ?_
    walk_at "rd"
    refine rd_fldA hg3 G.cl G.nS (gfl_s _ _) ?_
    walk_at "rd"
    refine ⟨Nat.zero_le _, fun em nem => ?_⟩
    walk_at "rd"
    refine ⟨by show 4 ≤ sizeLine; decide, fun t2 nt2 => ?_⟩
    have a4 : Adv [] H3 (upd (upd H3 em (.tup [])) t2 (.tup [.ref b0, .ref em, .ref l2, .ref r2])) := (Adv.new nem).newT nt2
    have a13 : Adv [] H H3 := (((Adv.nil a12).trans a3).drop n0').drop n1'
    obtain ⟨rs3, h03, rd3⟩ := B3.rows
    have nem' := a13.free (by simp) nem
    refine q t2 _ ⟨⟨b0, em, l2, r2, rs3, upd_same, a4.same _ _ h03, (rd3.less (by simp +contextual)).adv (Adv.nil a4), .inl ⟨fun z => al em z nem', ?_⟩, (hl2.less (by simp +contextual)).adv (Adv.nil a4), (hr2.less (by simp +contextual)).adv (Adv.nil a4), n0', ?_⟩⟩ (a13.trans a4)
    · exact (Adv.new (M := []) nt2).same _ _ upd_same
    · exact (a13.newT nem).free (by simp) nt2
/-! ### reading_of -/
def lenT : PyData → Nat
  | .tuple ds => ds.length
  | _ => 0
/-- the sides are not long -/
def SmC (d : PyData) : Prop := ∀ a b c e, d = .tuple [a, b, c, e] → lenT c + lenT e ≤ 3000
theorem SmC.cl {ns : List Nd} {le ri : List Nat} (h : SmC (clD ns le ri)) : le.length + ri.length ≤ 3000 := by
  have := h _ _ _ _ rfl
  show le.length + ri.length ≤ 3000
  simpa [lenT, nD] using this
structure RdgP (cS cC cV : Addr) (v1 v2 : V) (H : Hp) (Q : VK) (E : XK) : Prop where
  ex : ∃ (M : List Addr) (d1 d2 : PyData), (∀ b ∈ M, H b ≠ none) ∧ Is M H d1 v1 ∧ Is M H d2 v2 ∧ sz d2 ≤ 1000000 ∧ SmC d2 ∧
    (isR7 d1 = none → ∀ dd H', Adv [] H H' → H dd = none → H' dd = some (.xd [("name", .str "reading")]) → E (.ref cV) (some dd) H') ∧
    (∀ r, isR7 d1 = some r → ∀ i, claimW d2 = cw "BadSheet" (.int i) → ∀ dd H', Adv [] H H' → H dd = none → H' dd = some (.xd [("row", .int i)]) → E (.ref cS) (some dd) H') ∧
    (∀ r, isR7 d1 = some r → ∀ z, claimW d2 = cw "BadClaim" (.str z) → ∀ dd H', Adv [] H H' → H dd = none → H' dd = some (.xd [("word", .str z)]) → E (.ref cC) (some dd) H') ∧
    ∀ r ns le ri, isR7 d1 = some r → d2 = clD ns le ri → claimW d2 = none → RtC ns le ri → ∀ t H', ClOut M H H' t (readC r ns le ri).1 (readC r ns le ri).2.1 (readC r ns le ri).2.2 → Adv [] H H' → Q (.ref t) H'
def spReadingOf (cS cC cV : Addr) : Sp := fun vs H Q E => ∃ v1 v2, vs = [v1, v2] ∧ RdgP cS cC cV v1 v2 H Q E
theorem ok_reading_of (A : All K mg w) (G : Grw K mg) (R : Rds A) (Z : Exs K mg) (Z1 : Er_BadSheet Z) (Z2 : Er_BadValue Z) (Z3 : Er_BadClaim Z) : FnOk P w K mg base (L2N.CX P w) 9 A.reading_of.f A.reading_of.fd ["reading", "claim"] (spReadingOf (Z.cA "BadSheet") (Z.cA "BadClaim") (Z.cA "BadValue")) := by
  refine okXN A.reading_of.F sc_reading_of (fun vs H Q E h => ?_) (fun cdv Ar outer s H vs Q E hr h => ?_)
  · obtain ⟨v1, v2, rfl, _⟩ := h
    rfl
  · obtain ⟨v1, v2, rfl, X⟩ := h
    obtain ⟨M, d1, d2, al, h1, h2, hz, hs, q1, q2, q3, q4⟩ := X.ex
    refine ⟨_, (pss_cons (ps_expr (pe_callS (ok_check_any_claim A Z Z1 Z3) (hr.mono (by omega)) rfl A.check_any_claim.m A.check_any_claim.F.kp A.check_any_claim.b (L2N.passAt (L2N.takes_of rfl rfl rfl rfl)) (pa_cons (pe_ix ix_tup (pe_callS (ok_logics_of A Z Z2) (hr.mono (by omega)) rfl A.logics_of.m A.logics_of.F.kp A.logics_of.b (L2N.passAt (L2N.takes_of rfl rfl rfl rfl)) (pa_cons (pv 0) pa_nil)) pe_int (fun _ _ => rfl)) (pa_cons (pv 1) pa_nil))))
  (pss_one (ps_ret (pe_call (ok_read_claim_of A G R) (hr.mono (by omega)) rfl A.read_claim_of.m A.read_claim_of.F.kp A.read_claim_of.b .nil pass0 (pa_cons (pv 0) (pa_cons (pv 1) pa_nil)))))), ?_⟩
    walk_at "rd"
    refine ⟨v1, rfl, ⟨d1, h1.less (by simp), q1, fun r hr t ht => ?_⟩⟩
    have st : SqT K H t [.str r.lo, .str r.hi] := Tp.sq A.W (M := []) (.inr ht)
    walk_at "rd"
    refine ⟨r.lo, v2, rfl, ⟨d2, by cases r <;> decide, by cases r <;> decide, h2.less (by simp), hz, fun i e => q2 r hr i e, fun z e => q3 r hr z e, fun e H1 a1 => ?_⟩⟩
    obtain ⟨ns, le, ri, rfl, ok⟩ := claimW_none e
    obtain ⟨x, rfl, hx⟩ : ∃ x, d1 = .str x ∧ r7Of x = some r := by
      cases d1 with
      | str x => exact ⟨x, rfl, hr⟩
      | _ => cases hr
    cases r7_str hx
    cases h1.strE
    obtain ⟨cl, vs, rfl, hcl, hsC⟩ := h2.tupE
    obtain ⟨va, vb, vc, ve, rfl, ha, hb, hc, he⟩ := IsDs.four hsC
    obtain ⟨sh, rs, rfl, _, hsh, rd⟩ := ha.lstE
    obtain ⟨lt, ls, rfl, hlt, hls⟩ := hc.tupE
    obtain ⟨rt, rr, rfl, hrt, hrr⟩ := he.tupE
    rw [nD_of hls] at hlt
    rw [nD_of hrr] at hrt
    walk_at "rd"
    refine ⟨⟨M, cl, sh, lt, rt, vb, rs, ns, le, ri, r, rfl, alloc_adv al a1 (by simp), hcl.adv (Adv.nil a1), a1.same _ _ hsh, rd.adv (Adv.nil a1), hlt.adv (Adv.nil a1), hrt.adv (Adv.nil a1), ok, hs.cl, fun t H' o a2 => ?_⟩⟩
    refine q4 r ns le ri hr rfl e ok t H' ?_ (a1.trans a2)
    obtain ⟨L, e, l2, r2, rs, y1, y2, y3, y4, y5, y6, y7, y8⟩ := o.ex
    exact ⟨⟨L, e, l2, r2, rs, y1, y2, y3, y4, y5, y6, a1.free (by simp) y7, a1.free (by simp) y8⟩⟩
end
end K60

set_option Elab.async false
set_option linter.all false
set_option maxRecDepth 100000
set_option maxHeartbeats 400000
namespace K60
open PySem PySem.Spec PyProof.Rows L2 LL
open C8 (pss_cut)
local macro_rules | `(tactic| walk_at "ne") => `(tactic| first | assumption | (apply Ne.symm; assumption) | exact ne_of_none (by walk_at "hp") (by assumption) | exact (ne_of_none (by walk_at "hp") (by assumption)).symm)
local macro_rules | `(tactic| walk_at "nm") => `(tactic| first | assumption | exact notin0 | exact notin1 (by walk_at "ne") | exact notin2 (by walk_at "ne") (by walk_at "ne"))
local macro_rules | `(tactic| walk_at "hp") => `(tactic| first | assumption | exact upd_same | (refine Eq.trans (upd_ne ?ne) ?hh; (case hh => walk_at "hp"); (case ne => walk_at "ne")) | (refine Adv.get' (by assumption) ?hh ?nn; (case hh => walk_at "hp"); (case nn => walk_at "nm")))
local macro_rules | `(tactic| walk_at "tp") => `(tactic| first | assumption | exact Tp.adv (by walk_at "tp") (by assumption) | exact Tp.adv (by walk_at "tp") (Adv.nil (by assumption)))
local macro_rules | `(tactic| walk_at "sq") => `(tactic| first | assumption | exact Tp.sq (by assumption) (by walk_at "tp") | exact SqT.of (by walk_at "hp"))
local macro_rules | `(tactic| walk_at "at") => `(tactic| first | exact atI_nat (j := 0) rfl | exact atI_nat (j := 1) rfl | exact atI_nat (j := 2) rfl | exact atI_nat (j := 3) rfl | exact atI_nat (by assumption) | (rw [Int.zero_add]; exact atI_nat (by assumption)))
local macro_rules | `(tactic| walk_at "bb") => `(tactic| first | assumption | decide | exact rfl)
local macro_rules | `(tactic| walk_at "ci") => `(tactic| first | omega | (dsimp only; omega) | (unfold CDiv; omega) | (unfold CMul; omega))
local macro_rules | `(tactic| walk_at "rd1") => `(tactic| first
  | with_reducible refine rd_c ?_
  | ((with_reducible refine' rd_var ?rh ?_); (case rh => exact rfl))
  | with_reducible refine rd_op ?_
  | with_reducible refine rd_seq ?_
  | with_reducible refine rd_asg ?_
  | with_reducible refine rd_gname ?_
  | with_reducible refine rd_ifS ?_
  | with_reducible refine rd_test ?_
  | with_reducible refine rd_tB ?_
  | with_reducible refine rd_blP ?_
  | ((with_reducible refine' iteY ?rh ?_); (case rh => walk_at "bb"))
  | ((with_reducible refine' iteN ?rh ?_); (case rh => walk_at "bb"))
  | with_reducible refine rd_ret ?_
  | with_reducible refine rd_nx ?_
  | ((with_reducible refine' rd_eq ?rh ?_); (case rh => exact rfl))
  | ((with_reducible refine' rd_ne ?rh ?_); (case rh => exact rfl))
  | with_reducible refine rd_add ?_
  | with_reducible refine rd_sub ?_
  | with_reducible refine rd_i0 ?_
  | with_reducible refine rd_and ?_
  | with_reducible refine rd_or ?_
  | with_reducible refine rd_not ?_
  | with_reducible refine rd_andV ?_
  | with_reducible refine rd_orV ?_
  | with_reducible refine rd_notV ?_
  | with_reducible refine rd_ifE ?_
  | with_reducible refine rd_isN ?_
  | with_reducible refine rd_notN ?_
  | with_reducible refine rd_cons ?_
  | with_reducible refine rd_nil ?_
  | with_reducible refine rd_tup ?_
  | with_reducible refine rd_lst ?_
  | with_reducible refine rd_call ?_
  | with_reducible refine rd_cb ?_
  | with_reducible refine rd_meth ?_
  | with_reducible refine rd_callS ?_
  | with_reducible refine rd_make ?_
  | with_reducible refine rd_rfl ?_
  | with_reducible refine rd_fld ?_
  | with_reducible refine rd_drop ?_
  | with_reducible refine rd_gsub ?_
  | with_reducible refine rd_gcons ?_
  | with_reducible refine rd_gnil ?_
  | with_reducible refine rd_par ?_
  | with_reducible refine rd_two ?_
  | with_reducible refine rd_par3 ?_
  | with_reducible refine rd_three ?_
  | with_reducible refine rd_int1 ?_
  | ((with_reducible refine' rd_i ?rh ?_); (case rh => walk_at "ci"))
  | with_reducible refine rd_part ?_
  | with_reducible refine rd_nopart ?_
  | with_reducible refine rd_int ?_
  | with_reducible refine rd_sl ?_
  | with_reducible refine rd_bm ?_
  | with_reducible refine rd_bm0 ?_
  | with_reducible refine rd_dgetT ?_
  | with_reducible refine rd_din ?_
  | with_reducible refine rd_dnin ?_
  | with_reducible refine rd_un ?_
  | ((with_reducible refine' rd_ixL ?rh ?re ?_); (case rh => walk_at "hp"); (case re => walk_at "at"))
  | ((with_reducible refine' rd_ixT ?rh ?re ?_); (case rh => walk_at "sq"); (case re => walk_at "at"))
  | ((with_reducible refine' rd_lenT ?rh ?_); (case rh => walk_at "sq"))
  | ((with_reducible refine' rd_tyL ?rh ?_); (case rh => walk_at "hp"))
  | ((with_reducible refine' rd_len ?rh ?_); (case rh => walk_at "hp"))
  | with_reducible refine rd_u ?_
  | ((with_reducible refine' rd_slL ?rh ?_); (case rh => walk_at "hp"))
  | with_reducible refine rd_for ?_
  | with_reducible refine rd_rng1 ?_
  | with_reducible refine rd_rng2 ?_
  | with_reducible refine rd_ints1 ?_
  | with_reducible refine rd_ints2 ?_
  | with_reducible refine rd_retN ?_)
local macro_rules | `(tactic| walk_at "rd") => `(tactic| repeat walk_at "rd1")
section
variable [KW]
variable {P : Program} {w : World} {K : PySem.W.Frag} {mg : Str → Option Value} {base : Heap}
/-! ### _law_is_rows -/
theorem cnt_pos {n : Nat} (c : Nat → Bool) (ys : Nat → V) : decide (((((List.range n).filter c).map ys).length : Nat) > (0 : Int)) = !((List.range n).all fun i => !c i) := by
  have h := filt0 (n := n) c ys
  cases e : (List.range n).all fun i => !c i with
  | true =>
    rw [e] at h
    have := V.int.inj (of_decide_eq_true h)
    simp only [Bool.not_true, decide_eq_false_iff_not]
    omega
  | false =>
    rw [e] at h
    have := of_decide_eq_false h
    simp only [Bool.not_false, decide_eq_true_eq]
    have h2 : ((((List.range n).filter c).map ys).length : Int) ≠ 0 := fun z => this (by rw [z])
    omega
theorem all_range (ds : List PyData) (f : PyData → Bool) : ((List.range ds.length).all fun i => f (ds.getD i .none)) = ds.all f := by
  rw [Bool.eq_iff_iff, List.all_eq_true, List.all_eq_true]
  constructor
  · intro h d hd
    obtain ⟨i, hi, rfl⟩ := List.getElem_of_mem hd
    have := h i (List.mem_range.mpr hi)
    simpa [List.getD_eq_getElem?_getD, hi] using this
  · intro h i hi
    have hi := List.mem_range.mp hi
    have := h ds[i] (List.getElem_mem hi)
    simpa [List.getD_eq_getElem?_getD, hi] using this
theorem ok_law_is_rows (A : All K mg w) : FnOk P w K mg base CX0 2 A.law_is_rows.f A.law_is_rows.fd ["value", "many"] spAreRows := by
  refine A.law_is_rows.F.ok sc_law_is_rows (fun vs H Q E h => ?_) (fun cdv Ar outer s H vs Q E hr h => ?_)
  · obtain ⟨v, d, n, rfl, _⟩ := h
    rfl
  · obtain ⟨v, d, n, rfl, hv, hz, q⟩ := h
    refine ⟨_, (pss_cons (ps_if (PW.pt (pw_or (pt_not (pt_val (pe_callB call_isi (by rfl) A.T.isinstance (by decide +kernel) (pa_cons (pv 0) (pa_cons (pe_bltn (v := .ty "tuple") (by rfl) A.T.tuple (by decide +kernel) rfl) pa_nil))))) (pw_or1 (pt_cmpR op_gt (pe_callB call_len_seq (by rfl) A.T.len PySem.boot_len (pa_cons (pe_lc (own := [("row", 2)]) (g := gName 2) rfl sc_law_is_rows.nd (pi_tup (pv 0)) (blkOk_by (own := [("row", 2)]) (N := ["value", "many", "row", "at"]) (sc := defScope s_law_is_rows) (by decide +kernel)) (fun _ _ _ _ _ => pg_name (i := 2) sc_law_is_rows.nd rfl (Or.inl rfl)) (fun _ _ _ _ _ => pts_one (pt_not (pt_val (pe_call (ok_law_number A) (hr.mono (by omega)) rfl A.law_number.m A.law_number.F.kp A.law_number.b .nil pass0 (pa_cons (pv 2) (pa_cons pe_int (pa_cons (pe_op op_sub (pv 1) pe_int) pa_nil))))))) (fun _ _ _ _ _ => (pv 2))) pa_nil)) pe_int (nomark _)))))
    (pss_one (ps_ret pe_bl))
    pss_nil)
  (pss_one (ps_ret (pe_cmpR op_eq (pe_callB call_len_seq (by rfl) A.T.len PySem.boot_len (pa_cons (pe_lc (own := [("at", 3)]) (g := gName 3) rfl sc_law_is_rows.nd (pi_range2 rfl A.T.range (pa_cons pe_int (pa_cons (pe_callB call_len_seq (by rfl) A.T.len PySem.boot_len (pa_cons (pv 0) pa_nil)) pa_nil))) (blkOk_by (own := [("at", 3)]) (N := ["value", "many", "row", "at"]) (sc := defScope s_law_is_rows) (by decide +kernel)) (fun _ _ _ _ _ => pg_name (i := 3) sc_law_is_rows.nd rfl (Or.inl rfl)) (fun _ _ _ _ _ => pts_one (pt_cmpR op_ge (pe_ix (ix_any K rfl) (pv 0) (pe_op op_sub (pv 3) pe_int) (fun _ _ => rfl)) (pe_ix (ix_any K rfl) (pv 0) (pv 3) (fun _ _ => rfl)) (nomark _))) (fun _ _ _ _ _ => (pv 3))) pa_nil)) pe_int (nomark _))))), ?_⟩
    refine ⟨_, rfl, _, _, _, _, _, rfl, .ty _, hv.ty A.W, k_tuple d, _, rfl, ?_⟩
    by_cases ht : ∃ ds, d = .tuple ds
    · obtain ⟨ds, rfl⟩ := ht
      have hz := hz ds rfl
      obtain ⟨a, vs, rfl, htp, hs⟩ := hv.tupE
      have hl := hs.len
      refine iteN (by simp [kitD, tyN]) ?_
      refine ⟨_, rfl, a, rfl, ⟨_, htp.sq A.W⟩, fun D nD => ?_⟩
      refine lc_filtT (K := K) (a := a) (xs := vs) (fun i => vs.getD i .non) (fun i => !isNum 0 (n - 1) (ds.getD i .none)) nD (htp.sq A.W) (by omega) ?_ ?_
      · intro i x H' acc R R0 hx aH hD k k0
        obtain ⟨dx, hdx, hisx⟩ := hs.getV hx
        have ed : ds.getD i .none = dx := by rw [List.getD_eq_getElem?_getD, hdx]; rfl
        have ex : vs.getD i .non = x := by rw [List.getD_eq_getElem?_getD, hx]; rfl
        refine ⟨rfl, x, rfl, _, rfl, n, 1, rfl, rfl, x, dx, 0, n - 1, rfl, (hisx.adv aH), _, rfl, ?_⟩
        rw [ed] at k k0
        refine iteB (fun e1 => ?_) (fun e1 => k0 e1 H' hD aH)
        refine ⟨x, rfl, ?_⟩
        have k' := k e1 H' hD aH
        rw [ex] at k'
        exact k'
      · intro H' aH hD
        have sq := SqT.adv aH (htp.sq A.W)
        walk_at "rd"
        rw [cnt_pos]
        have e : ((List.range vs.length).all fun i => !(!isNum 0 (n - 1) (ds.getD i .none))) = ds.all (isNum 0 (n - 1)) := by
          rw [hl]
          simp only [Bool.not_not]
          exact all_range ds _
        rw [e]
        walk_at "rd"
        refine iteB (fun e1 => ?_) (fun e1 => ?_)
        · have q' := q H' aH
          have e2 : rowsB n (.tuple ds) = false := by
            show (ds.all (isNum 0 (n - 1)) && _) = false
            have : ds.all (isNum 0 (n - 1)) = false := by simpa using e1
            rw [this, Bool.false_and]
          rw [e2] at q'
          exact q'
        · have e1 : ds.all (isNum 0 (n - 1)) = true := by simpa using e1
          obtain ⟨rows, e0, hr⟩ := any_rows (d := .tuple ds) e1
          injection e0 with e0
          subst e0
          cases (nD_of hs)
          have q' := q
          rw [rowsB_ris (show anyB n (.tuple (LL.nD rows)) = true from e1)] at q'
          have hl : (nVl rows).length = rows.length := nVl_len rows
          have hz : rows.length ≤ 1000000 := by rw [← hl, hs.len]; exact hz
          have at_ : ∀ (j : Nat) (i : Int), j < rows.length → i = (j : Nat) → atI (nVl rows) i = some (.int (rows.getD j 0 : Nat)) := fun j i hj e => by
            rw [e]
            refine atI_nat (j := j) ?_
            unfold nVl
            simp [hj]
          walk_at "rd"
          refine ⟨_, rfl, a, _, rfl, .inr sq, 1, _, rfl, ⟨by decide, by decide, by omega, by rw [hl]; omega⟩, fun D2 nD2 => ?_⟩
          have hn : (((nVl rows).length : Nat) - 1 : Int).toNat = rows.length - 1 := by rw [hl]; omega
          rw [hn]
          refine lc_filtRl (fun i => V.int (1 + (i : Nat))) (fun i => decide (((rows.getD (i + 1) 0 : Nat) : Int) ≤ (rows.getD i 0 : Nat))) nD2 (by omega) ?_ ?_
          · intro i H2 acc R R0 hi a2 hD2 k k0
            have sq' := SqT.adv a2 sq
            refine ⟨rfl, _, rfl, _, rfl, 1 + (i : Int), 1, rfl, rfl, .inr ⟨a, _, _, _, rfl, rfl, sq', at_ i _ (by omega) (by omega), _, rfl, _, rfl, .inr ⟨a, _, _, _, rfl, rfl, sq', at_ (i + 1) _ (by omega) (by omega), _, _, rfl, rfl, _, rfl, ?_⟩⟩⟩
            exact iteB (fun e => ⟨_, rfl, k e H2 hD2 a2⟩) (fun e => k0 e H2 hD2 a2)
          · intro H2 a2 hD2
            walk_at "rd"
            rw [filt0]
            have e3 : ((List.range (rows.length - 1)).all fun i => !decide (((rows.getD (i + 1) 0 : Nat) : Int) ≤ (rows.getD i 0 : Nat))) = risB (rows.map fun r => ((r : Nat) : Int)) := by
              unfold risB
              rw [List.length_map]
              have gd : ∀ j : Nat, (rows.map fun r => ((r : Nat) : Int)).getD j 0 = ((rows.getD j 0 : Nat) : Int) := fun j => by
                rw [List.getD_eq_getElem?_getD, List.getD_eq_getElem?_getD, List.getElem?_map]
                cases rows[j]? <;> rfl
              congr 1
              funext i
              rw [gd, gd, ← decide_not]
              congr 1
              exact propext Int.not_le
            rw [e3]
            exact q' H2 (aH.trans a2)
    · refine iteY (by rw [not_tup ht]; rfl) (iteY rfl ?_)
      have q' := q H (Adv.refl _ _)
      cases d with
      | tuple ds => exact absurd ⟨ds, rfl⟩ ht
      | _ => exact q'
end
end K60

set_option Elab.async false
set_option linter.all false
set_option maxRecDepth 100000
set_option maxHeartbeats 400000
namespace K60
open PySem PySem.Spec PyProof.Rows L2 LL
open C8 (pss_cut)
local macro_rules | `(tactic| walk_at "ne") => `(tactic| first | assumption | (apply Ne.symm; assumption) | exact ne_of_none (by walk_at "hp") (by assumption) | exact (ne_of_none (by walk_at "hp") (by assumption)).symm)
local macro_rules | `(tactic| walk_at "nm") => `(tactic| first | assumption | exact notin0 | exact notin1 (by walk_at "ne") | exact notin2 (by walk_at "ne") (by walk_at "ne"))
local macro_rules | `(tactic| walk_at "hp") => `(tactic| first | assumption | exact upd_same | (refine Eq.trans (upd_ne ?ne) ?hh; (case hh => walk_at "hp"); (case ne => walk_at "ne")) | (refine Adv.get' (by assumption) ?hh ?nn; (case hh => walk_at "hp"); (case nn => walk_at "nm")))
local macro_rules | `(tactic| walk_at "tp") => `(tactic| first | assumption | exact Tp.adv (by walk_at "tp") (by assumption) | exact Tp.adv (by walk_at "tp") (Adv.nil (by assumption)))
local macro_rules | `(tactic| walk_at "sq") => `(tactic| first | assumption | exact Tp.sq (by assumption) (by walk_at "tp") | exact SqT.of (by walk_at "hp"))
local macro_rules | `(tactic| walk_at "at") => `(tactic| first | exact atI_nat (j := 0) rfl | exact atI_nat (j := 1) rfl | exact atI_nat (j := 2) rfl | exact atI_nat (j := 3) rfl | exact atI_nat (by assumption) | (rw [Int.zero_add]; exact atI_nat (by assumption)))
local macro_rules | `(tactic| walk_at "bb") => `(tactic| first | assumption | decide | exact rfl)
local macro_rules | `(tactic| walk_at "ci") => `(tactic| first | omega | (dsimp only; omega) | (unfold CDiv; omega) | (unfold CMul; omega))
local macro_rules | `(tactic| walk_at "rd1") => `(tactic| first
  | with_reducible refine rd_c ?_
  | ((with_reducible refine' rd_var ?rh ?_); (case rh => exact rfl))
  | with_reducible refine rd_op ?_
  | with_reducible refine rd_seq ?_
  | with_reducible refine rd_asg ?_
  | with_reducible refine rd_gname ?_
  | with_reducible refine rd_ifS ?_
  | with_reducible refine rd_test ?_
  | with_reducible refine rd_tB ?_
  | with_reducible refine rd_blP ?_
  | ((with_reducible refine' iteY ?rh ?_); (case rh => walk_at "bb"))
  | ((with_reducible refine' iteN ?rh ?_); (case rh => walk_at "bb"))
  | with_reducible refine rd_ret ?_
  | with_reducible refine rd_nx ?_
  | ((with_reducible refine' rd_eq ?rh ?_); (case rh => exact rfl))
  | ((with_reducible refine' rd_ne ?rh ?_); (case rh => exact rfl))
  | with_reducible refine rd_add ?_
  | with_reducible refine rd_sub ?_
  | with_reducible refine rd_i0 ?_
  | with_reducible refine rd_and ?_
  | with_reducible refine rd_or ?_
  | with_reducible refine rd_not ?_
  | with_reducible refine rd_andV ?_
  | with_reducible refine rd_orV ?_
  | with_reducible refine rd_notV ?_
  | with_reducible refine rd_ifE ?_
  | with_reducible refine rd_isN ?_
  | with_reducible refine rd_notN ?_
  | with_reducible refine rd_cons ?_
  | with_reducible refine rd_nil ?_
  | with_reducible refine rd_tup ?_
  | with_reducible refine rd_lst ?_
  | with_reducible refine rd_call ?_
  | with_reducible refine rd_cb ?_
  | with_reducible refine rd_meth ?_
  | with_reducible refine rd_callS ?_
  | with_reducible refine rd_make ?_
  | with_reducible refine rd_rfl ?_
  | with_reducible refine rd_fld ?_
  | with_reducible refine rd_drop ?_
  | with_reducible refine rd_gsub ?_
  | with_reducible refine rd_gcons ?_
  | with_reducible refine rd_gnil ?_
  | with_reducible refine rd_par ?_
  | with_reducible refine rd_two ?_
  | with_reducible refine rd_par3 ?_
  | with_reducible refine rd_three ?_
  | with_reducible refine rd_int1 ?_
  | ((with_reducible refine' rd_i ?rh ?_); (case rh => walk_at "ci"))
  | with_reducible refine rd_part ?_
  | with_reducible refine rd_nopart ?_
  | with_reducible refine rd_int ?_
  | with_reducible refine rd_sl ?_
  | with_reducible refine rd_bm ?_
  | with_reducible refine rd_bm0 ?_
  | with_reducible refine rd_dgetT ?_
  | with_reducible refine rd_din ?_
  | with_reducible refine rd_dnin ?_
  | with_reducible refine rd_un ?_
  | ((with_reducible refine' rd_ixL ?rh ?re ?_); (case rh => walk_at "hp"); (case re => walk_at "at"))
  | ((with_reducible refine' rd_ixT ?rh ?re ?_); (case rh => walk_at "sq"); (case re => walk_at "at"))
  | ((with_reducible refine' rd_lenT ?rh ?_); (case rh => walk_at "sq"))
  | ((with_reducible refine' rd_tyL ?rh ?_); (case rh => walk_at "hp"))
  | ((with_reducible refine' rd_len ?rh ?_); (case rh => walk_at "hp"))
  | with_reducible refine rd_u ?_
  | ((with_reducible refine' rd_slL ?rh ?_); (case rh => walk_at "hp"))
  | with_reducible refine rd_for ?_
  | with_reducible refine rd_rng1 ?_
  | with_reducible refine rd_rng2 ?_
  | with_reducible refine rd_ints1 ?_
  | with_reducible refine rd_ints2 ?_
  | with_reducible refine rd_retN ?_)
local macro_rules | `(tactic| walk_at "rd") => `(tactic| repeat walk_at "rd1")
section
variable [KW]
variable {P : Program} {w : World} {K : PySem.W.Frag} {mg : Str → Option Value} {base : Heap}
/-! ### _law_claim_error -/
structure ClErrP (vs : List V) (H : Hp) (Q : VK) : Prop where
  ex : ∃ (M : List Addr) (v : V) (d : PyData), vs = [v] ∧ (∀ b ∈ M, H b ≠ none) ∧ Is M H d v ∧ sz d ≤ 1000000 ∧ (claimW d = none → ∀ H', Adv [] H H' → Q .non H') ∧
    ∀ c x, claimW d = some (c, x) → ∀ v' H', Is M H' (.tuple [.str c, x]) v' → v' ≠ .non → Adv [] H H' → Q v' H'
def spClaimError : Sp := fun vs H Q _ => ClErrP vs H Q
theorem ok_law_claim_error (A : All K mg w) : FnOk P w K mg base CX0 5 A.law_claim_error.f A.law_claim_error.fd ["claim"] spClaimError := by
  refine A.law_claim_error.F.ok sc_law_claim_error (fun vs H Q E h => ?_) (fun cdv Ar outer s H vs Q E hr h => ?_)
  · obtain ⟨M, v, d, rfl, _⟩ := h.ex
    rfl
  · obtain ⟨M, v, d, rfl, al, hv, hz, q1, q2⟩ := h.ex
    refine ⟨_, (pss_cons (ps_if (PW.pt (pw_or (pt_not (pt_val (pe_callB call_isi (by rfl) A.T.isinstance (by decide +kernel) (pa_cons (pv 0) (pa_cons (pe_bltn (v := .ty "tuple") (by rfl) A.T.tuple (by decide +kernel) rfl) pa_nil))))) (pw_or1 (pt_cmpR op_ne (pe_callB call_len_seq (by rfl) A.T.len PySem.boot_len (pa_cons (pv 0) pa_nil)) pe_int (nomark _)))))
    (pss_one (ps_ret (pe_tup (pa_cons pe_str (pa_cons pe_str pa_nil)))))
    pss_nil)
  (pss_cons (ps_set (i := 1) sc_law_claim_error.nd rfl (Or.inl rfl) (pe_call (ok_law_wrong_row A) (hr.mono (by omega)) rfl A.law_wrong_row.m A.law_wrong_row.F.kp A.law_wrong_row.b .nil pass0 (pa_cons (pe_ix ix_tup (pv 0) pe_int (fun _ _ => rfl)) (pa_cons pe_int (pa_cons pe_bl pa_nil)))))
  (pss_cons (ps_if (pt_cmpR op_notN (pv 1) pe_non (nomark _))
    (pss_one (ps_ret (pe_tup (pa_cons pe_str (pa_cons (pv 1) pa_nil)))))
    pss_nil)
  (pss_cons (ps_for PassesOwn.never rfl (pi_range2 rfl A.T.range (pa_cons pe_int (pa_cons pe_int pa_nil))) (pg_name (i := 2) sc_law_claim_error.nd rfl (Or.inl rfl))
    (pss_one (ps_if (PW.pt (pw_or (pt_not (pt_val (pe_call (ok_law_is_rows A) (hr.mono (by omega)) rfl A.law_is_rows.m A.law_is_rows.F.kp A.law_is_rows.b .nil pass0 (pa_cons (pe_ix ix_tup (pv 0) (pv 2) (fun _ _ => rfl)) (pa_cons (pe_callB call_len_seq (by rfl) A.T.len PySem.boot_len (pa_cons (pe_ix ix_tup (pv 0) pe_int (fun _ _ => rfl)) pa_nil)) pa_nil))))) (pw_or1 (PW.pt (pw_and (pt_cmpR op_eq (pv 2) pe_int (nomark _)) (pw_and1 (pt_cmpR op_gt (pe_callB call_len_seq (by rfl) A.T.len PySem.boot_len (pa_cons (pe_ix ix_tup (pv 0) pe_int (fun _ _ => rfl)) pa_nil)) pe_int (nomark _))))))))
    (pss_one (ps_ret (pe_tup (pa_cons pe_str (pa_cons (pe_ix ix_tup (pe_tup (pa_cons pe_str (pa_cons pe_str (pa_cons pe_str pa_nil)))) (pe_op op_sub (pv 2) pe_int) (fun _ _ => rfl)) pa_nil)))))
    pss_nil)))
  (pss_one (ps_ret pe_non)))))), ?_⟩
    refine ⟨_, rfl, _, _, _, _, _, rfl, .ty _, hv.ty A.W, k_tuple d, _, rfl, ?_⟩
    have four : ∀ (H1 : Hp), Adv [] H H1 → tupN 4 d = false → [V.str "BadClaim", V.str "claim"].length ≤ sizeLine ∧ ∀ p, H1 p = none → Q (.ref p) (upd H1 p (.tup [.str "BadClaim", .str "claim"])) := fun H1 a1 e =>
      ⟨by show 2 ≤ sizeLine; decide, fun p np => q2 _ _ (four_not e) _ _ (Is.tup upd_same (not_mem_new (alloc_adv al a1 (by simp)) np) (.cons .str (.cons .str .nil))) (by simp) (a1.newT np)⟩
    by_cases ht : ∃ ds, d = .tuple ds
    · obtain ⟨ds, rfl⟩ := ht
      obtain ⟨t, vs, rfl, htp, hs⟩ := hv.tupE
      have sq := htp.sq A.W
      refine iteN (by simp [kitD, tyN]) ?_
      walk_at "rd"
      rw [hs.len]
      by_cases h4 : ds.length = 4
      · refine iteN (by simp [h4]) ?_
        obtain ⟨da, db, dc, de, e⟩ := four_yes (d := .tuple ds) (decide_eq_true (by omega))
        injection e with e
        subst e
        obtain ⟨z1, z2, z3, z4⟩ := sz_four hz
        obtain ⟨va, vb, vc, ve, rfl, ha, hb, hc, he⟩ := IsDs.four hs
        walk_at "rd"
        refine ⟨va, da, 5000, false, rfl, ha.less (by simp), by decide, sz_lstZ z1, fun H1 a1 => ?_⟩
        have al1 : ∀ b ∈ M, H1 b ≠ none := alloc_adv al a1 (by simp)
        walk_at "rd"
        cases e : wrongD 5000 false da with
        | some i =>
          refine iteY (by simp [resV]) ?_
          walk_at "rd"
          refine ⟨by show 2 ≤ sizeLine; decide, fun p np => ?_⟩
          exact q2 _ _ (cw_sheet e) _ _ (Is.tup upd_same (not_mem_new al1 np) (.cons .str (.cons .int .nil))) (by simp) (a1.newT np)
        | none =>
          refine iteN (by decide) ?_
          obtain ⟨ns, rfl, ok, hl⟩ := wrongD_none (by decide) e
          obtain ⟨sh, rs, rfl, _, hsh, rd⟩ := ha.lstE
          have hrl := rd.len
          rw [List.length_map] at hrl
          have el : lenD (.list (ns.map Nd.data)) = ns.length := by show (ns.map Nd.data).length = ns.length; rw [List.length_map]
          have cn := cw_next (b := db) (c := dc) (d := de) e
          rw [el] at cn
          walk_at "rd"
          have bad : ∀ (H3 : Hp) (nm : Str), Adv [] H1 H3 → claimW (.tuple [.list (ns.map Nd.data), db, dc, de]) = cw "BadClaim" (.str nm) → [V.str "BadClaim", V.str nm].length ≤ sizeLine ∧ ∀ p, H3 p = none → Q (.ref p) (upd H3 p (.tup [.str "BadClaim", .str nm])) := fun H3 nm a3 e =>
            ⟨by show 2 ≤ sizeLine; decide, fun p np => q2 _ _ e _ _ (Is.tup upd_same (not_mem_new (alloc_adv al1 a3 (by simp)) np) (.cons .str (.cons .str .nil))) (by simp) ((a1.trans a3).newT np)⟩
          refine ⟨⟨by decide, by decide, by decide, by decide⟩, ?_⟩
          refine for_range (lo := 1) (n := 3) (fun i σ' H' => ∃ y2, σ' = [some (.ref t), some .non, y2] ∧ Adv [] H1 H' ∧ (1 ≤ i → (rowsB (ns.length : Nat) db && emptyT db) = true) ∧ (2 ≤ i → rowsB (ns.length : Nat) dc = true) ∧ (3 ≤ i → rowsB (ns.length : Nat) de = true))
            ⟨_, rfl, Adv.refl _ _, by omega, by omega, by omega⟩ ?_ ?_
          · rintro i σ' H2 hi ⟨y2, rfl, a2, c1, c2, c3⟩
            have sq2 := SqT.adv (a1.trans a2) sq
            have hsh2 := (a1.trans a2).same _ _ hsh
            obtain rfl | rfl | rfl : i = 0 ∨ i = 1 ∨ i = 2 := by omega
            · walk_at "rd"
              refine ⟨vb, db, (rs.length : Nat), rfl, (hb.less (by simp)).adv (a1.trans a2), sz_tupZ z2, fun H3 a3 => ?_⟩
              have a13 := a2.trans a3
              have sq3 := SqT.adv a3 sq2
              rw [hrl]
              cases e1 : rowsB (ns.length : Nat) db with
              | false =>
                walk_at "rd"
                refine ⟨by show 3 ≤ sizeLine; decide, fun p np => ?_⟩
                walk_at "rd"
                exact bad _ "theory" (a13.newT np) (by rw [cn, if_pos (by rw [e1]; rfl)])
              | true =>
                obtain ⟨rows, rfl, hr1, hr2⟩ := rows_nat e1
                obtain ⟨tb, us, rfl, htb, hsb⟩ := hb.tupE
                rw [nD_of hsb] at htb
                have sqb := ((htb.less (N := []) (by simp)).adv (a1.trans a13)).sq A.W
                walk_at "rd"
                cases rows with
                | nil =>
                  refine iteN rfl ?_
                  walk_at "rd"
                  exact ⟨_, rfl, a13, fun _ => rfl, by omega, by omega⟩
                | cons r rows =>
                  refine iteY (by rw [nVl_len]; simp) ?_
                  walk_at "rd"
                  refine ⟨by show 3 ≤ sizeLine; decide, fun p np => ?_⟩
                  walk_at "rd"
                  exact bad _ "theory" (a13.newT np) (by rw [cn, if_pos (by rw [e1]; rfl)])
            · walk_at "rd"
              refine ⟨vc, dc, (rs.length : Nat), rfl, (hc.less (by simp)).adv (a1.trans a2), sz_tupZ z3, fun H3 a3 => ?_⟩
              have a13 := a2.trans a3
              have sq3 := SqT.adv a3 sq2
              rw [hrl]
              cases e1 : rowsB (ns.length : Nat) dc with
              | false =>
                walk_at "rd"
                refine ⟨by show 3 ≤ sizeLine; decide, fun p np => ?_⟩
                walk_at "rd"
                exact bad _ "left" (a13.newT np) (by rw [cn, if_neg (by rw [c1 (by omega)]; decide), if_pos e1])
              | true =>
                walk_at "rd"
                exact ⟨_, rfl, a13, fun _ => c1 (by omega), fun _ => rfl, by omega⟩
            · walk_at "rd"
              refine ⟨ve, de, (rs.length : Nat), rfl, (he.less (by simp)).adv (a1.trans a2), sz_tupZ z4, fun H3 a3 => ?_⟩
              have a13 := a2.trans a3
              have sq3 := SqT.adv a3 sq2
              rw [hrl]
              cases e1 : rowsB (ns.length : Nat) de with
              | false =>
                walk_at "rd"
                refine ⟨by show 3 ≤ sizeLine; decide, fun p np => ?_⟩
                walk_at "rd"
                exact bad _ "right" (a13.newT np) (by rw [cn, if_neg (by rw [c1 (by omega)]; decide), if_neg (by rw [c2 (by omega)]; decide), if_pos e1])
              | true =>
                walk_at "rd"
                exact ⟨_, rfl, a13, fun _ => c1 (by omega), fun _ => c2 (by omega), fun _ => rfl⟩
          · rintro σ' H2 ⟨y2, rfl, a2, c1, c2, c3⟩
            walk_at "rd"
            refine q1 ?_ _ (a1.trans a2)
            rw [cn, if_neg (by rw [c1 (by omega)]; decide), if_neg (by rw [c2 (by omega)]; decide), if_neg (by rw [c3 (by omega)]; decide)]
      · refine iteY (by simp; omega) ?_
        walk_at "rd"
        refine four H (Adv.refl _ _) ?_
        show decide ((ds.length : Int) = 4) = false
        exact decide_eq_false (by omega)
    · refine iteY (by rw [not_tup ht]; rfl) (iteY rfl ?_)
      refine four H (Adv.refl _ _) ?_
      cases d with
      | tuple ds => exact absurd ⟨ds, rfl⟩ ht
      | _ => rfl
end
end K60

set_option Elab.async false
set_option linter.all false
set_option maxRecDepth 100000
set_option maxHeartbeats 400000
namespace K60
open PySem PySem.Spec PyProof.Rows L2 LL
open C8 (pss_cut)
local macro_rules | `(tactic| walk_at "ne") => `(tactic| first | assumption | (apply Ne.symm; assumption) | exact ne_of_none (by walk_at "hp") (by assumption) | exact (ne_of_none (by walk_at "hp") (by assumption)).symm)
local macro_rules | `(tactic| walk_at "nm") => `(tactic| first | assumption | exact notin0 | exact notin1 (by walk_at "ne") | exact notin2 (by walk_at "ne") (by walk_at "ne"))
local macro_rules | `(tactic| walk_at "hp") => `(tactic| first | assumption | exact upd_same | (refine Eq.trans (upd_ne ?ne) ?hh; (case hh => walk_at "hp"); (case ne => walk_at "ne")) | (refine Adv.get' (by assumption) ?hh ?nn; (case hh => walk_at "hp"); (case nn => walk_at "nm")))
local macro_rules | `(tactic| walk_at "tp") => `(tactic| first | assumption | exact Tp.adv (by walk_at "tp") (by assumption) | exact Tp.adv (by walk_at "tp") (Adv.nil (by assumption)))
local macro_rules | `(tactic| walk_at "sq") => `(tactic| first | assumption | exact Tp.sq (by assumption) (by walk_at "tp") | exact SqT.of (by walk_at "hp"))
local macro_rules | `(tactic| walk_at "at") => `(tactic| first | exact atI_nat (j := 0) rfl | exact atI_nat (j := 1) rfl | exact atI_nat (j := 2) rfl | exact atI_nat (j := 3) rfl | exact atI_nat (by assumption) | (rw [Int.zero_add]; exact atI_nat (by assumption)))
local macro_rules | `(tactic| walk_at "bb") => `(tactic| first | assumption | decide | exact rfl)
local macro_rules | `(tactic| walk_at "ci") => `(tactic| first | omega | (dsimp only; omega) | (unfold CDiv; omega) | (unfold CMul; omega))
local macro_rules | `(tactic| walk_at "rd1") => `(tactic| first
  | with_reducible refine rd_c ?_
  | ((with_reducible refine' rd_var ?rh ?_); (case rh => exact rfl))
  | with_reducible refine rd_op ?_
  | with_reducible refine rd_seq ?_
  | with_reducible refine rd_asg ?_
  | with_reducible refine rd_gname ?_
  | with_reducible refine rd_ifS ?_
  | with_reducible refine rd_test ?_
  | with_reducible refine rd_tB ?_
  | with_reducible refine rd_blP ?_
  | ((with_reducible refine' iteY ?rh ?_); (case rh => walk_at "bb"))
  | ((with_reducible refine' iteN ?rh ?_); (case rh => walk_at "bb"))
  | with_reducible refine rd_ret ?_
  | with_reducible refine rd_nx ?_
  | ((with_reducible refine' rd_eq ?rh ?_); (case rh => exact rfl))
  | ((with_reducible refine' rd_ne ?rh ?_); (case rh => exact rfl))
  | with_reducible refine rd_add ?_
  | with_reducible refine rd_sub ?_
  | with_reducible refine rd_i0 ?_
  | with_reducible refine rd_and ?_
  | with_reducible refine rd_or ?_
  | with_reducible refine rd_not ?_
  | with_reducible refine rd_andV ?_
  | with_reducible refine rd_orV ?_
  | with_reducible refine rd_notV ?_
  | with_reducible refine rd_ifE ?_
  | with_reducible refine rd_isN ?_
  | with_reducible refine rd_notN ?_
  | with_reducible refine rd_cons ?_
  | with_reducible refine rd_nil ?_
  | with_reducible refine rd_tup ?_
  | with_reducible refine rd_lst ?_
  | with_reducible refine rd_call ?_
  | with_reducible refine rd_cb ?_
  | with_reducible refine rd_meth ?_
  | with_reducible refine rd_callS ?_
  | with_reducible refine rd_make ?_
  | with_reducible refine rd_rfl ?_
  | with_reducible refine rd_fld ?_
  | with_reducible refine rd_drop ?_
  | with_reducible refine rd_gsub ?_
  | with_reducible refine rd_gcons ?_
  | with_reducible refine rd_gnil ?_
  | with_reducible refine rd_par ?_
  | with_reducible refine rd_two ?_
  | with_reducible refine rd_par3 ?_
  | with_reducible refine rd_three ?_
  | with_reducible refine rd_int1 ?_
  | ((with_reducible refine' rd_i ?rh ?_); (case rh => walk_at "ci"))
  | with_reducible refine rd_part ?_
  | with_reducible refine rd_nopart ?_
  | with_reducible refine rd_int ?_
  | with_reducible refine rd_sl ?_
  | with_reducible refine rd_bm ?_
  | with_reducible refine rd_bm0 ?_
  | with_reducible refine rd_dgetT ?_
  | with_reducible refine rd_din ?_
  | with_reducible refine rd_dnin ?_
  | with_reducible refine rd_un ?_
  | ((with_reducible refine' rd_ixL ?rh ?re ?_); (case rh => walk_at "hp"); (case re => walk_at "at"))
  | ((with_reducible refine' rd_ixT ?rh ?re ?_); (case rh => walk_at "sq"); (case re => walk_at "at"))
  | ((with_reducible refine' rd_lenT ?rh ?_); (case rh => walk_at "sq"))
  | ((with_reducible refine' rd_tyL ?rh ?_); (case rh => walk_at "hp"))
  | ((with_reducible refine' rd_len ?rh ?_); (case rh => walk_at "hp"))
  | with_reducible refine rd_u ?_
  | ((with_reducible refine' rd_slL ?rh ?_); (case rh => walk_at "hp"))
  | with_reducible refine rd_for ?_
  | with_reducible refine rd_rng1 ?_
  | with_reducible refine rd_rng2 ?_
  | with_reducible refine rd_ints1 ?_
  | with_reducible refine rd_ints2 ?_
  | with_reducible refine rd_retN ?_)
local macro_rules | `(tactic| walk_at "rd") => `(tactic| repeat walk_at "rd1")
section
variable [KW]
variable {P : Program} {w : World} {K : PySem.W.Frag} {mg : Str → Option Value} {base : Heap}
/-! ### _law_read_claim -/
structure RcSt (Z : Nat) (M : List Addr) (b0 b1 bk rw_ : Addr) (H0 : Hp) (rows : List Nat) (ns : List Nd) (f : Nat → Nat) (d : Addr) (H : Hp) : Prop where
  B : BkN M H b0 b1 ns
  hbk : H bk = some (.lst [.ref b0, .ref b1])
  hrw : H rw_ = some (.lst (nV rows))
  hd : NewD H d rows f
  hz : ∀ kvs : List (Key × V), H d = some (.dK kvs) → kvs.length ≤ Z
  a : Adv [b0, b1] H0 H
  nd : H0 d = none
theorem RcSt.same {Z : Nat} {M : List Addr} {b0 b1 bk rw_ d : Addr} {H0 H H' : Hp} {rows : List Nat} {ns : List Nd} {f : Nat → Nat} (x : RcSt Z M b0 b1 bk rw_ H0 rows ns f d H) (a : Adv [] H H') : RcSt Z M b0 b1 bk rw_ H0 rows ns f d H' :=
  ⟨x.B.same a, a.same _ _ x.hbk, a.same _ _ x.hrw, x.hd.same a, fun kvs h => by
    obtain ⟨k2, h2, _⟩ := x.hd
    have := a.same _ _ h2
    rw [h] at this
    cases this
    exact x.hz _ h2, x.a.trans (Adv.nil a), x.nd⟩
theorem r7_nb (r : R7) : ((["negative", "boxed"] : List Str).any fun y => decide (r.str = y)) = (decide (r = .neg) || decide (r = .box)) := by cases r <;> decide +kernel
def mid (r : R7) (ns : List Nd) (rows : List Nat) : List Nd × (Nat → Nat) :=
  match r with
  | .neg => growF .neg ns rows
  | .box => growF .box ns rows
  | _ => (ns, fun i => i)
theorem ok_law_read_claim (A : All K mg w) : FnOk P w K mg base CX0 5 A.law_read_claim.f A.law_read_claim.fd ["reading", "claim"] spReadClaimOf := by
  refine A.law_read_claim.F.ok sc_law_read_claim (fun vs H Q E h => ?_) (fun cdv Ar outer s H vs Q E hr h => ?_)
  · obtain ⟨M, cl, sh, lt, rt, th, rs, ns, le, ri, r, rfl, _⟩ := h.ex
    rfl
  · obtain ⟨M, cl, sh, lt, rt, th, rs, ns, le, ri, r, rfl, al, hcl, hsh, rd, hlt, hrt, ok, hz, q⟩ := h.ex
    refine ⟨_, (pss_cons (ps_set (i := 2) sc_law_read_claim.nd rfl (Or.inr rfl) (pe_call (ok_law_book A) (hr.mono (by omega)) rfl A.law_book.m A.law_book.F.kp A.law_book.b .nil pass0 (pa_cons (pe_ix ix_tup (pv 1) pe_int (fun _ _ => rfl)) pa_nil)))
  (pss_cons (ps_set (i := 3) sc_law_read_claim.nd rfl (Or.inl rfl) (pe_op op_cat (pe_callTy call_list_of (by rfl) A.T.list (by decide +kernel) (pa_cons (pe_ix ix_tup (pv 1) pe_int (fun _ _ => rfl)) pa_nil)) (pe_callTy call_list_of (by rfl) A.T.list (by decide +kernel) (pa_cons (pe_ix ix_tup (pv 1) pe_int (fun _ _ => rfl)) pa_nil))))
  (pss_cons (ps_set (i := 4) sc_law_read_claim.nd rfl (Or.inr rfl) pe_dnewK)
  (pss_cut (ps_for PassesOwn.never rfl (pi_list (pv 3)) (pg_name (i := 5) sc_law_read_claim.nd rfl (Or.inl rfl))
    (pss_one (ps_dput (hu_of hr) (pv 4) (pv 5) (pv 5) rfl)))
  (pss_cut (ps_if (pt_cmpR op_in_seq (pv 0) (pe_tup (pa_cons pe_str (pa_cons pe_str pa_nil))) rfl)
    (pss_one (ps_set (i := 4) sc_law_read_claim.nd rfl (Or.inr rfl) (pe_call (ok_law_read A) (hr.mono (by omega)) rfl A.law_read.m A.law_read.F.kp A.law_read.b .nil pass0 (pa_cons (pv 0) (pa_cons (pv 2) (pa_cons (pv 3) pa_nil))))))
    pss_nil)
  (pss_cut (ps_if (pt_cmpR op_eq (pv 0) pe_str (nomark _))
    (pss_cons (ps_set (i := 6) sc_law_read_claim.nd rfl (Or.inr rfl) (pe_call (ok_law_read A) (hr.mono (by omega)) rfl A.law_read.m A.law_read.F.kp A.law_read.b .nil pass0 (pa_cons pe_str (pa_cons (pv 2) (pa_cons (pv 3) pa_nil)))))
  (pss_cons (ps_set (i := 7) sc_law_read_claim.nd rfl (Or.inl rfl) (pe_call (ok_law_read A) (hr.mono (by omega)) rfl A.law_read.m A.law_read.F.kp A.law_read.b .nil pass0 (pa_cons pe_str (pa_cons (pv 2) (pa_cons (pe_lc (own := [("row", 5)]) (g := gName 5) rfl sc_law_read_claim.nd (pi_list (pv 3)) (blkOk_by (own := [("row", 5)]) (N := ["reading", "claim", "book", "rows", "new", "row", "first", "second", "left", "right"]) (sc := defScope s_law_read_claim) (by decide +kernel)) (fun _ _ _ _ _ => pg_name (i := 5) sc_law_read_claim.nd rfl (Or.inl rfl)) (fun _ _ _ _ _ => pts_nil) (fun _ _ _ _ _ => (pe_dget (hu_of hr) (pv 6) (pv 5) (fun _ _ => rfl)))) pa_nil)))))
  (pss_one (ps_for PassesOwn.never rfl (pi_list (pv 3)) (pg_name (i := 5) sc_law_read_claim.nd rfl (Or.inl rfl))
    (pss_one (ps_dput (hu_of hr) (pv 4) (pv 5) (pe_dget (hu_of hr) (pv 7) (pe_dget (hu_of hr) (pv 6) (pv 5) (fun _ _ => rfl)) (fun _ _ => rfl)) rfl))))))
    pss_nil)
  (pss_cons (ps_par (i := 8) (j := 9) (by rfl) sc_law_read_claim.nd rfl rfl (by decide) rfl rfl (pa_cons (pe_lc (own := [("row", 5)]) (g := gName 5) rfl sc_law_read_claim.nd (pi_tup (pe_ix ix_tup (pv 1) pe_int (fun _ _ => rfl))) (blkOk_by (own := [("row", 5)]) (N := ["reading", "claim", "book", "rows", "new", "row", "first", "second", "left", "right"]) (sc := defScope s_law_read_claim) (by decide +kernel)) (fun _ _ _ _ _ => pg_name (i := 5) sc_law_read_claim.nd rfl (Or.inl rfl)) (fun _ _ _ _ _ => pts_nil) (fun _ _ _ _ _ => (pe_dget (hu_of hr) (pv 4) (pv 5) (fun _ _ => rfl)))) (pa_cons (pe_lc (own := [("row", 5)]) (g := gName 5) rfl sc_law_read_claim.nd (pi_tup (pe_ix ix_tup (pv 1) pe_int (fun _ _ => rfl))) (blkOk_by (own := [("row", 5)]) (N := ["reading", "claim", "book", "rows", "new", "row", "first", "second", "left", "right"]) (sc := defScope s_law_read_claim) (by decide +kernel)) (fun _ _ _ _ _ => pg_name (i := 5) sc_law_read_claim.nd rfl (Or.inl rfl)) (fun _ _ _ _ _ => pts_nil) (fun _ _ _ _ _ => (pe_dget (hu_of hr) (pv 4) (pv 5) (fun _ _ => rfl)))) pa_nil)) (by rfl))
  (pss_cut (ps_if (pt_cmpR op_in_seq (pv 0) (pe_tup (pa_cons pe_str (pa_cons pe_str pa_nil))) rfl)
    (pss_cons (ps_set (i := 8) sc_law_read_claim.nd rfl (Or.inl rfl) (pe_op op_cat (pv 8) (pe_lc (own := [("row", 5)]) (g := gName 5) rfl sc_law_read_claim.nd (pi_list (pv 9)) (blkOk_by (own := [("row", 5)]) (N := ["reading", "claim", "book", "rows", "new", "row", "first", "second", "left", "right"]) (sc := defScope s_law_read_claim) (by decide +kernel)) (fun _ _ _ _ _ => pg_name (i := 5) sc_law_read_claim.nd rfl (Or.inl rfl)) (fun _ _ _ _ _ => pts_nil) (fun _ _ _ _ _ => (pe_call (ok_law_not A) (hr.mono (by omega)) rfl A.law_not.m A.law_not.F.kp A.law_not.b .nil pass0 (pa_cons (pv 2) (pa_cons (pv 5) pa_nil)))))))
  (pss_one (ps_set (i := 9) sc_law_read_claim.nd rfl (Or.inl rfl) (pe_lst pa_nil))))
    pss_nil)
  (pss_one (ps_ret (pe_tup (pa_cons (pe_ix ix_list (pv 2) pe_int (fun _ _ => rfl)) (pa_cons (pe_tup pa_nil) (pa_cons (pe_callTy call_tuple_of (by rfl) A.T.tuple (by decide +kernel) (pa_cons (pe_callB (cr_sortS rfl) (by rfl) A.T.sorted (by decide +kernel) (pa_cons (pe_callTy (cr_setL rfl) (by rfl) A.T.set (by decide +kernel) (pa_cons (pv 8) pa_nil)) pa_nil)) pa_nil)) (pa_cons (pe_callTy call_tuple_of (by rfl) A.T.tuple (by decide +kernel) (pa_cons (pe_callB (cr_sortS rfl) (by rfl) A.T.sorted (by decide +kernel) (pa_cons (pe_callTy (cr_setL rfl) (by rfl) A.T.set (by decide +kernel) (pa_cons (pv 9) pa_nil)) pa_nil)) pa_nil)) pa_nil))))))))))))))), ?_⟩
    have scl := hcl.sq A.W
    have slt := hlt.sq A.W
    have srt := hrt.sq A.W
    have hns := ok.hl
    walk_at "rd"
    refine ⟨⟨M, sh, rs, ns, rfl, hsh, rd, al, ok.ok.1, by omega, fun bk b0 b1 H0 n0 n1 kM hbk B a0 => ?_⟩⟩
    have scl0 := SqT.adv a0 scl
    have slt0 := SqT.adv a0 slt
    have srt0 := SqT.adv a0 srt
    walk_at "rd"
    intro l1 nl1
    have c1 : Adv [] H0 (upd H0 l1 (.lst (nVl le))) := Adv.new nl1
    have scl1 := SqT.adv c1 scl0
    have srt1 := SqT.adv c1 srt0
    walk_at "rd"
    intro l2 nl2
    have c2 := c1.newT (o := .lst (nVl ri)) nl2
    refine rd_cat (H := upd (upd H0 l1 (.lst (nVl le))) l2 (.lst (nVl ri))) ((upd_ne (ne_of_none (upd_same (H := H0)) nl2)).trans upd_same) upd_same (by rw [nVl_len, nVl_len, sizeLine_eq]; omega) (fun rw_ nrw => ?_)
    have c3 : Adv [] H0 (upd (upd (upd H0 l1 (.lst (nVl le))) l2 (.lst (nVl ri))) rw_ (.lst (nVl le ++ nVl ri))) := c2.newT nrw
    have hrw : (upd (upd (upd H0 l1 (.lst (nVl le))) l2 (.lst (nVl ri))) rw_ (.lst (nVl le ++ nVl ri))) rw_ = some (.lst (nV (le ++ ri))) := by
      rw [upd_same]
      unfold nVl nV
      rw [List.map_append]
    have nrw0 : H0 rw_ = none := c2.free (by simp) nrw
    generalize (upd (upd (upd H0 l1 (.lst (nVl le))) l2 (.lst (nVl ri))) rw_ (.lst (nVl le ++ nVl ri))) = H1 at c3 hrw
    have hl3 : (le ++ ri).length ≤ 3000 := by rw [List.length_append]; exact hz
    have hrows : ∀ i ∈ le ++ ri, i < ns.length := fun i hi => by
      rcases List.mem_append.mp hi with h | h
      · exact ok.bl i h
      · exact ok.br i h
    have okt := ok_true ok.ok
    have rM : rw_ ∉ b0 :: b1 :: M := fun z => B.al _ z nrw0
    have m01 : ∀ b, b ∉ b0 :: b1 :: M → b ∉ [b0, b1] := fun b h z => h (by
      rcases List.mem_cons.mp z with z | z
      · simp [z]
      · simp [List.mem_singleton.mp z])
    walk_at "rd"
    intro d nd
    have nd0 : H0 d = none := c3.free (by simp) nd
    have dB : d ≠ b0 ∧ d ≠ b1 := ⟨fun z => B.al b0 B.m0 (by rw [← z]; exact nd0), fun z => B.al b1 B.m1 (by rw [← z]; exact nd0)⟩
    have cd : Adv [] H0 (upd H1 d (.dK [])) := c3.newT nd
    have hrwd : (upd H1 d (.dK [])) rw_ = some (.lst (nV (le ++ ri))) := (Adv.new (M := []) nd).same _ _ hrw
    walk_at "rd"
    refine ⟨fun σ' H' => ∃ y5, σ' = [some (.str r.str), some (.ref cl), some (.ref bk), some (.ref rw_), some (.ref d), y5, none, none, none, none] ∧ RcSt 50000 (b0 :: b1 :: M) b0 b1 bk rw_ H0 (le ++ ri) ns (fun i => i) d H' ∧ BkN (d :: b0 :: b1 :: M) H' b0 b1 ns, ?_, ?_⟩
    · walk_at "rd"
      refine ⟨_, rfl, rw_, rfl, ⟨_, SqL.of hrwd⟩, ?_⟩
      have lenV : (nV (le ++ ri)).length = (le ++ ri).length := List.length_map ..
      refine for_list (a := rw_) (xs := nV (le ++ ri)) (fun i σ' H' => ∃ y5 kvs, σ' = [some (.str r.str), some (.ref cl), some (.ref bk), some (.ref rw_), some (.ref d), y5, none, none, none, none] ∧ BkN (d :: b0 :: b1 :: M) H' b0 b1 ns ∧ Adv [] H0 H' ∧ H' rw_ = some (.lst (nV (le ++ ri))) ∧ H' d = some (.dK kvs) ∧ kvs.length ≤ i ∧ ∀ k ∈ (le ++ ri).take i, valV kvs (Sum.inl ((k : Nat) : Int)) = some (.int (k : Nat)))
        ⟨none, [], rfl, (B.same c3).fresh nd, cd, hrwd, upd_same, Nat.le_refl _, by simp⟩ ?_ ?_ ?_
      · rintro i σ' H' hi ⟨y5, kvs, rfl, _, a', hr', _⟩
        exact SqL.of hr'
      · rintro i x σ' H' hx ⟨y5, kvs, rfl, B', a', hr', hd', hk', hv'⟩
        obtain ⟨k, hk, rfl⟩ := nVl_get (rows := le ++ ri) hx
        have rd_ : rw_ ≠ d := ne_of_none hrw nd
        have hi : i < (le ++ ri).length := (List.getElem?_eq_some_iff.mp hk).1
        refine ⟨_, rfl, _, rfl, _, rfl, d, _, rfl, DPut.k (k := (Sum.inl (k : Int) : Key)) hd' (by rw [sizeLine_eq]; omega), ?_⟩
        refine ⟨_, _, rfl, B'.adv (N := [d]) (Adv.set (by simp)) (notin1 fun z => dB.1 z.symm) (notin1 fun z => dB.2 z.symm) (by simp) (fun b hb => by rw [List.mem_singleton.mp hb, upd_same]; simp), a'.mut nd0, by rw [upd_ne rd_]; exact hr', upd_same, ?_, fun j hj => ?_⟩
        · have := length_putK kvs (Sum.inl ((k : Nat) : Int)) (V.int (k : Nat))
          omega
        · rw [valV_put]
          by_cases e : (Sum.inl ((j : Nat) : Int) : Key) = Sum.inl ((k : Nat) : Int)
          · rw [if_pos e]
            have : j = k := Int.ofNat.inj (Sum.inl.inj e)
            rw [this]
          · rw [if_neg e]
            rw [List.take_add_one, hk] at hj
            rcases List.mem_append.mp hj with hj | hj
            · exact hv' j hj
            · exact absurd (by rw [List.mem_singleton.mp hj]) e
      · rintro σ' H' ⟨y5, kvs, rfl, B', a', hr', hd', hk', hv'⟩
        rw [lenV, List.take_length] at hv'
        rw [lenV] at hk'
        refine ⟨y5, rfl, ⟨B.same a', a'.same _ _ hbk, hr', ⟨kvs, hd', hv'⟩, fun k2 h2 => ?_, Adv.nil a', nd0⟩, B'⟩
        rw [hd'] at h2
        cases h2
        omega
    · rintro σ' H2 ⟨y5, rfl, S, BD⟩
      walk_at "rd"
      refine ⟨fun σ' H' => ∃ y5 d, σ' = [some (.str r.str), some (.ref cl), some (.ref bk), some (.ref rw_), some (.ref d), y5, none, none, none, none] ∧ RcSt 50000 (b0 :: b1 :: M) b0 b1 bk rw_ H0 (le ++ ri) (mid r ns (le ++ ri)).1 (mid r ns (le ++ ri)).2 d H' ∧ (r = .dou → BkN (d :: b0 :: b1 :: M) H' b0 b1 ns), ?_, ?_⟩
      · walk_at "rd"
        refine ⟨by show 2 ≤ sizeLine; decide, fun p np => rd_inS (ws := ["negative", "boxed"]) upd_same ?_⟩
        rw [if_neg Bool.false_ne_true, r7_nb]
        have S2 := S.same (Adv.new (o := .tup [.str "negative", .str "boxed"]) np)
        have BD2 := BD.same (Adv.new (o := .tup [.str "negative", .str "boxed"]) np)
        generalize (upd H2 p (.tup [.str "negative", .str "boxed"])) = H3 at S2 BD2
        have go : ∀ (wd : W3) (H4 : Hp) (dn : Addr), H3 dn = none → H4 dn = some (.dK (newT (belowF ns (le ++ ri)) (readF wd ns (belowF ns (le ++ ri)) ns (fun _ => 0)).2)) → BkN (b0 :: b1 :: M) H4 b0 b1 (readF wd ns (belowF ns (le ++ ri)) ns (fun _ => 0)).1 → Adv [b0, b1] H3 H4 →
            RcSt 50000 (b0 :: b1 :: M) b0 b1 bk rw_ H0 (le ++ ri) (growF wd ns (le ++ ri)).1 (growF wd ns (le ++ ri)).2 dn H4 := fun wd H4 dn nn hn Bn an => by
          have a04 := S2.a.trans an
          refine ⟨Bn, an _ _ (m01 _ kM) S2.hbk, an _ _ (m01 _ rM) S2.hrw, newD_grow hn hrows, fun kvs h => ?_, a04, ?_⟩
          · rw [hn] at h
            cases h
            unfold newT
            have := below_len ns (le ++ ri)
            rw [List.length_map]
            omega
          · exact S2.a.free (m01 _ fun z => S2.B.al _ z nn) nn
        walk_at "rd"
        refine iteB (fun e => ?_) (fun e => ?_)
        · cases r <;> first | exact absurd e (by decide) | skip
          · walk_at "rd"
            refine ⟨⟨b0 :: b1 :: M, bk, b0, b1, rw_, ns, le ++ ri, true, .neg, rfl, S2.hbk, kM, S2.B, okt, by omega, S2.hrw, hrows, by omega, fun dn H4 nn hn Bn an => ?_⟩⟩
            exact ⟨_, dn, rfl, go .neg H4 dn nn hn Bn an, fun z => nomatch z⟩
          · walk_at "rd"
            refine ⟨⟨b0 :: b1 :: M, bk, b0, b1, rw_, ns, le ++ ri, true, .box, rfl, S2.hbk, kM, S2.B, okt, by omega, S2.hrw, hrows, by omega, fun dn H4 nn hn Bn an => ?_⟩⟩
            exact ⟨_, dn, rfl, go .box H4 dn nn hn Bn an, fun z => nomatch z⟩
        · walk_at "rd"
          have em : mid r ns (le ++ ri) = (ns, fun i => i) := by cases r <;> first | rfl | exact absurd e (by decide)
          rw [em]
          exact ⟨y5, d, rfl, S2, fun _ => BD2⟩
      · rintro σ' H3 ⟨y5, d2, rfl, S3, BD3⟩
        walk_at "rd"
        refine ⟨fun σ' H' => ∃ y5 d y6 y7, σ' = [some (.str r.str), some (.ref cl), some (.ref bk), some (.ref rw_), some (.ref d), y5, y6, y7, none, none] ∧ RcSt 60000 (b0 :: b1 :: M) b0 b1 bk rw_ H0 (le ++ ri) (newC r ns (le ++ ri)).1 (newC r ns (le ++ ri)).2 d H', ?_, ?_⟩
        · by_cases hdou : r = .dou
          · subst hdou
            have S3 : RcSt 50000 (b0 :: b1 :: M) b0 b1 bk rw_ H0 (le ++ ri) ns (fun i => i) d2 H3 := S3
            have d2M : d2 ∉ b0 :: b1 :: M := fun z => B.al _ z S3.nd
            have BD3 := BD3 rfl
            have kd : bk ≠ d2 := fun z => by
              obtain ⟨kv, hk, _⟩ := S3.hd
              have := S3.hbk
              rw [z, hk] at this
              cases this
            have kM2 : bk ∉ d2 :: b0 :: b1 :: M := fun z => by
              rcases List.mem_cons.mp z with z | z
              · exact kd z
              · exact kM z
            walk_at "rd"
            refine ⟨⟨d2 :: b0 :: b1 :: M, bk, b0, b1, rw_, ns, le ++ ri, true, .box, rfl, S3.hbk, kM2, BD3, okt, by omega, S3.hrw, hrows, by omega, fun d1 H4 nd1 hd1 B4 a4 => ?_⟩⟩
            have N1 := newD_grow hd1 hrows
            obtain ⟨ok1, lt1⟩ := growF_ok (w := .box) (.inr rfl) okt hrows
            have len1 : (readF .box ns (belowF ns (le ++ ri)) ns (fun _ => 0)).1.length ≤ 9 * ns.length := growF_len .box ns (le ++ ri)
            have d1M : d1 ∉ b0 :: b1 :: M := fun z => S3.B.al d1 z nd1
            have hrw4 := a4 _ _ (m01 _ rM) S3.hrw
            have hbk4 := a4 _ _ (m01 _ kM) S3.hbk
            walk_at "rd"
            refine ⟨_, rfl, rw_, rfl, ⟨_, SqL.of hrw4⟩, fun D nD => ?_⟩
            refine lc_mapL (K := K) (a := rw_) (xs := nVl (le ++ ri)) (fun i => V.int ((growF .box ns (le ++ ri)).2 ((le ++ ri).getD i 0) : Nat)) nD (SqL.of hrw4) (by rw [nVl_len]; omega) ?_ ?_
            · intro i x H' acc T hx aH hD k
              obtain ⟨j, hj, rfl⟩ := nVl_get hx
              have er : (le ++ ri).getD i 0 = j := by rw [List.getD_eq_getElem?_getD, hj]; rfl
              rw [er] at k
              exact ⟨rfl, _, rfl, _, rfl, d1, _, rfl, (N1.same aH).get (List.mem_of_getElem? hj), k H' hD aH⟩
            · intro H5 a5 hD
              rw [range_rows] at hD
              have B5 := B4.same a5
              walk_at "rd"
              refine ⟨⟨d2 :: b0 :: b1 :: M, bk, b0, b1, D, _, (le ++ ri).map (growF .box ns (le ++ ri)).2, true, .dou, rfl, a5.same _ _ hbk4, kM2, B5, ok1, by omega, hD, fun j hj => ?_, by rw [List.length_map]; omega, fun d3 H6 nd3 hd3 B6 a6 => ?_⟩⟩
              · obtain ⟨k, hk, rfl⟩ := List.mem_map.mp hj
                exact lt1 k hk
              have N3 := newD_grow hd3 (fun j hj => by
                obtain ⟨k, hk, rfl⟩ := List.mem_map.mp hj
                exact lt1 k hk)
              have d3M : d3 ∉ b0 :: b1 :: M := fun z => B5.al d3 (List.mem_cons_of_mem _ z) nd3
              have N1' := (N1.same a5).adv a6 (m01 _ d1M)
              have a36 : Adv [b0, b1] H3 H6 := (a4.trans (Adv.nil a5)).trans a6
              have hrw6 := a36 _ _ (m01 _ rM) S3.hrw
              have hbk6 := a36 _ _ (m01 _ kM) S3.hbk
              obtain ⟨kv0, hk0, _⟩ := S3.hd
              have hz0 := S3.hz _ hk0
              have hk6 := a36 _ _ (m01 _ d2M) hk0
              have dr : rw_ ≠ d2 := fun z => by
                have := S3.hrw
                rw [z, hk0] at this
                cases this
              have d12 : d1 ≠ d2 := fun z => by rw [z, hk0] at nd1; cases nd1
              have d32 : d3 ≠ d2 := fun z => by
                have h5 := a5.same _ _ (a4 _ _ (m01 _ d2M) hk0)
                rw [z, h5] at nd3
                cases nd3
              have lenV : (nV (le ++ ri)).length = (le ++ ri).length := List.length_map ..
              walk_at "rd"
              refine ⟨_, rfl, rw_, rfl, ⟨_, SqL.of hrw6⟩, ?_⟩
              refine for_list (a := rw_) (xs := nV (le ++ ri)) (fun i σ' H' => ∃ y5 kvs, σ' = [some (.str R7.dou.str), some (.ref cl), some (.ref bk), some (.ref rw_), some (.ref d2), y5, some (.ref d1), some (.ref d3), none, none] ∧ Adv [d2] H6 H' ∧ H' d2 = some (.dK kvs) ∧ kvs.length ≤ kv0.length + i ∧ ∀ k ∈ (le ++ ri).take i, valV kvs (Sum.inl ((k : Nat) : Int)) = some (.int ((newC .dou ns (le ++ ri)).2 k : Nat)))
                ⟨_, kv0, rfl, Adv.refl _ _, hk6, Nat.le_refl _, by simp⟩ ?_ ?_ ?_
              · rintro i σ' H' hi ⟨y5, kvs, rfl, a', _⟩
                exact SqL.of (a' _ _ (notin1 dr) hrw6)
              · rintro i x σ' H' hx ⟨y5, kvs, rfl, a', hd', hk', hv'⟩
                obtain ⟨k, hk, rfl⟩ := nVl_get (rows := le ++ ri) hx
                have hm := List.mem_of_getElem? hk
                have hi : i < (le ++ ri).length := (List.getElem?_eq_some_iff.mp hk).1
                refine ⟨_, rfl, _, rfl, _, rfl, d1, _, rfl, (N1'.adv a' (notin1 d12)).get hm, d3, _, rfl, (N3.adv a' (notin1 d32)).get (List.mem_map.mpr ⟨k, hm, rfl⟩), _, rfl, _, rfl, d2, _, rfl, DPut.k (k := (Sum.inl (k : Int) : Key)) hd' (by rw [sizeLine_eq]; omega), ?_⟩
                refine ⟨_, _, rfl, a'.trans (Adv.set (by simp)), upd_same, ?_, fun j hj => ?_⟩
                · have := length_putK kvs (Sum.inl ((k : Nat) : Int)) (V.int ((newC .dou ns (le ++ ri)).2 k : Nat))
                  show (putK kvs (Sum.inl ((k : Nat) : Int)) (V.int ((newC .dou ns (le ++ ri)).2 k : Nat))).length ≤ _
                  omega
                · show valV (putK kvs (Sum.inl ((k : Nat) : Int)) (V.int ((newC .dou ns (le ++ ri)).2 k : Nat))) _ = _
                  rw [valV_put]
                  by_cases e : (Sum.inl ((j : Nat) : Int) : Key) = Sum.inl ((k : Nat) : Int)
                  · rw [if_pos e]
                    have : j = k := Int.ofNat.inj (Sum.inl.inj e)
                    rw [this]
                  · rw [if_neg e]
                    rw [List.take_add_one, hk] at hj
                    rcases List.mem_append.mp hj with hj | hj
                    · exact hv' j hj
                    · exact absurd (by rw [List.mem_singleton.mp hj]) e
              · rintro σ' H' ⟨y5, kvs, rfl, a', hd', hk', hv'⟩
                rw [lenV, List.take_length] at hv'
                rw [lenV] at hk'
                refine ⟨y5, d2, _, _, rfl, ⟨?_, a' _ _ (notin1 fun z => ?_) hbk6, a' _ _ (notin1 dr) hrw6, ⟨kvs, hd', hv'⟩, fun k2 h2 => ?_, ?_, S3.nd⟩⟩
                · have B6' : BkN (d2 :: b0 :: b1 :: M) H6 b0 b1 (newC .dou ns (le ++ ri)).1 := B6
                  exact (B6'.adv (N := [d2]) a' (notin1 fun z => d2M (by rw [← z]; simp)) (notin1 fun z => d2M (by rw [← z]; simp)) (by simp) (fun b hb => by rw [List.mem_singleton.mp hb, hd']; simp)).less (by simp +contextual) (by simp) (by simp)
                · rw [z] at hbk6
                  rw [hk6] at hbk6
                  cases hbk6
                · rw [hd'] at h2
                  cases h2
                  omega
                · exact (((S3.a.trans a36).more (N := [d2, b0, b1]) (by simp +contextual)).trans (a'.more (by simp))).drop S3.nd
          · have em : newC r ns (le ++ ri) = mid r ns (le ++ ri) := by cases r <;> first | rfl | exact absurd rfl hdou
            have er : decide (V.str r.str = V.str "doubled") = false := by cases r <;> first | exact absurd rfl hdou | decide +kernel
            rw [em]
            walk_at "rd"
            exact ⟨y5, d2, _, _, rfl, ⟨S3.B, S3.hbk, S3.hrw, S3.hd, fun kvs h => Nat.le_trans (S3.hz kvs h) (by decide), S3.a, S3.nd⟩⟩
        · rintro σ' H4 ⟨y5, d3, y6, y7, rfl, S4⟩
          have scl4 : SqT K H4 cl [V.ref sh, th, V.ref lt, V.ref rt] := by
            have := ((((hcl.fresh n1).fresh n0).adv (Adv.nil a0)).adv (S4.a.more (N := b0 :: b1 :: M) (by simp +contextual))).sq A.W
            exact this
          have slt4 : SqT K H4 lt (nVl le) := ((((hlt.fresh n1).fresh n0).adv (Adv.nil a0)).adv (S4.a.more (N := b0 :: b1 :: M) (by simp +contextual))).sq A.W
          have srt4 : SqT K H4 rt (nVl ri) := ((((hrt.fresh n1).fresh n0).adv (Adv.nil a0)).adv (S4.a.more (N := b0 :: b1 :: M) (by simp +contextual))).sq A.W
          have hdl := S4.hd.sub (rows' := le) fun i hi => List.mem_append_left _ hi
          have hdr := S4.hd.sub (rows' := ri) fun i hi => List.mem_append_right _ hi
          walk_at "rd"
          refine ⟨_, rfl, cl, _, 2, _, rfl, rfl, scl4, atI_nat (j := 2) rfl, lt, rfl, ⟨_, slt4⟩, fun L nL => ?_⟩
          refine lc_mapT (K := K) (a := lt) (xs := nVl le) (fun i => V.int ((newC r ns (le ++ ri)).2 (le.getD i 0) : Nat)) nL slt4 (by rw [nVl_len]; omega) ?_ ?_
          · intro i x H' acc T hx aH hD k
            obtain ⟨j, hj, rfl⟩ := nVl_get hx
            have er : le.getD i 0 = j := by rw [List.getD_eq_getElem?_getD, hj]; rfl
            rw [er] at k
            exact ⟨rfl, _, rfl, _, rfl, d3, _, rfl, (hdl.same aH).get (List.mem_of_getElem? hj), k H' hD aH⟩
          · intro H5 a5 hL
            rw [range_rows] at hL
            have scl5 := SqT.adv a5 scl4
            have srt5 := SqT.adv a5 srt4
            walk_at "rd"
            refine ⟨_, rfl, cl, _, 3, _, rfl, rfl, scl5, atI_nat (j := 3) rfl, rt, rfl, ⟨_, srt5⟩, fun Rr nR => ?_⟩
            refine lc_mapT (K := K) (a := rt) (xs := nVl ri) (fun i => V.int ((newC r ns (le ++ ri)).2 (ri.getD i 0) : Nat)) nR srt5 (by rw [nVl_len]; omega) ?_ ?_
            · intro i x H' acc T hx aH hD k
              obtain ⟨j, hj, rfl⟩ := nVl_get hx
              have er : ri.getD i 0 = j := by rw [List.getD_eq_getElem?_getD, hj]; rfl
              rw [er] at k
              exact ⟨rfl, _, rfl, _, rfl, d3, _, rfl, ((hdr.same a5).same aH).get (List.mem_of_getElem? hj), k H' hD aH⟩
            · intro H6 a6 hR
              rw [range_rows] at hR
              have S6 := (S4.same a5).same a6
              have hL6 := a6.same _ _ hL
              have LR : L ≠ Rr := ne_of_none hL nR
              have LM : L ∉ b0 :: b1 :: M := fun z => S4.B.al _ z nL
              have RM : Rr ∉ b0 :: b1 :: M := fun z => S4.B.al _ z (a5.free (by simp) nR)
              walk_at "rd"
              refine ⟨fun σ' H' => ∃ y5 L Rr Ls Rs, σ' = [some (.str r.str), some (.ref cl), some (.ref bk), some (.ref rw_), some (.ref d3), y5, y6, y7, some (.ref L), some (.ref Rr)] ∧ BkN (b0 :: b1 :: M) H' b0 b1 (readC r ns le ri).1 ∧ H' bk = some (.lst [.ref b0, .ref b1]) ∧ H' L = some (.lst (nV Ls)) ∧ H' Rr = some (.lst (nV Rs)) ∧
                srtN Ls = (readC r ns le ri).2.1 ∧ srtN Rs = (readC r ns le ri).2.2 ∧ Ls.length ≤ 4000 ∧ Rs.length ≤ 4000 ∧ Adv [b0, b1] H0 H', ?_, ?_⟩
              · walk_at "rd"
                refine ⟨by show 2 ≤ sizeLine; decide, fun p np => rd_inS (ws := ["negative", "denied"]) upd_same ?_⟩
                rw [if_neg Bool.false_ne_true, r7_den]
                have ap := Adv.new (M := []) (o := .tup [.str "negative", .str "denied"]) np
                have S7 := S6.same ap
                have hL7 := ap.same _ _ hL6
                have hR7 := ap.same _ _ hR
                have nL7 : H0 L = none := S4.a.free (m01 _ LM) nL
                have nR7 : H0 Rr = none := S4.a.free (m01 _ RM) (a5.free (by simp) nR)
                generalize (upd H6 p (.tup [.str "negative", .str "denied"])) = H7 at S7 hL7 hR7
                walk_at "rd"
                refine iteB (fun e => ?_) (fun e => ?_)
                · have e3 : (readC r ns le ri) = ((denyL (newC r ns (le ++ ri)).1 (ri.map (newC r ns (le ++ ri)).2)).2, srtN (le.map (newC r ns (le ++ ri)).2 ++ (denyL (newC r ns (le ++ ri)).1 (ri.map (newC r ns (le ++ ri)).2)).1), []) := by unfold readC; rw [if_pos e]
                  have len1 := newC_len r ns (le ++ ri)
                  rw [e3]
                  obtain ⟨ns1, f, en⟩ : ∃ ns1 f, newC r ns (le ++ ri) = (ns1, f) := ⟨_, _, rfl⟩
                  rw [en] at S7 hL7 hR7 len1 ⊢
                  dsimp only at S7 hL7 hR7 len1 ⊢
                  walk_at "rd"
                  refine ⟨_, rfl, Rr, rfl, ⟨_, SqL.of hR7⟩, fun D nD => ?_⟩
                  have DM : D ∉ b0 :: b1 :: M := fun z => S7.B.al _ z nD
                  have kD : bk ≠ D := ne_of_none S7.hbk nD
                  have RD : Rr ≠ D := ne_of_none hR7 nD
                  have kM2 : bk ∉ D :: b0 :: b1 :: M := fun z => by
                    rcases List.mem_cons.mp z with z | z
                    · exact kD z
                    · exact kM z
                  have lenR : (nV (ri.map f)).length = ri.length := by unfold nV; rw [List.length_map, List.length_map]
                  refine lc_list (K := K) (a := Rr) (xs := nV (ri.map f)) (tt := tYes) (fun i H' => Adv [b0, b1] H7 H' ∧ BkN (D :: b0 :: b1 :: M) H' b0 b1 (denyL ns1 ((ri.map f).take i)).2 ∧ H' D = some (.lst (nV (denyL ns1 ((ri.map f).take i)).1)))
                    ⟨Adv.nil (Adv.new nD), S7.B.fresh nD, upd_same⟩ (fun i H' _ p => ?_) (fun i x H' hx p => ?_) (fun H' p => ?_)
                  · exact SqL.of (p.1 _ _ (m01 _ RM) hR7)
                  · obtain ⟨a8, B8, hD8⟩ := p
                    obtain ⟨j, hj, rfl⟩ := nVl_get (rows := ri.map f) hx
                    have hji : i < ri.length := by
                      have := (List.getElem?_eq_some_iff.mp hj).1
                      rw [List.length_map] at this
                      exact this
                    have hlen := denyL_len ((ri.map f).take i) ns1
                    have htk : ((ri.map f).take i).length ≤ 3000 := by rw [List.length_take, List.length_map]; omega
                    have l1 := denyL_len1 ((ri.map f).take i) ns1
                    refine ⟨rfl, _, rfl, _, rfl, D :: b0 :: b1 :: M, bk, b0, b1, _, j, rfl, a8 _ _ (m01 _ kM) S7.hbk, kM2, B8, by omega, fun H9 B9 a9 => ?_⟩
                    have hD9 := a9 _ _ (m01 _ DM) hD8
                    have et : (ri.map f).take (i + 1) = (ri.map f).take i ++ [j] := by rw [List.take_succ, hj]; rfl
                    refine ⟨_, hD9, by unfold nV; rw [List.length_map, sizeLine_eq]; omega, ?_, ?_, ?_⟩
                    · exact (a8.trans a9).mut nD
                    · rw [et, denyL_snoc]
                      exact B9.adv (N := [D]) (Adv.set (by simp)) (notin1 fun z => DM (by rw [← z]; simp)) (notin1 fun z => DM (by rw [← z]; simp)) (by simp) (fun b hb => by rw [List.mem_singleton.mp hb, upd_same]; simp)
                    · rw [et, denyL_snoc, upd_same]
                      unfold nV
                      rw [List.map_append]
                      rfl
                  · obtain ⟨a8, B8, hD8⟩ := p
                    have et : (ri.map f).take (nV (ri.map f)).length = ri.map f := by rw [lenR, ← List.length_map (f := f), List.take_length]
                    rw [et] at B8 hD8
                    have l1 := denyL_len1 (ri.map f) ns1
                    rw [List.length_map] at l1
                    have hL8 := a8 _ _ (m01 _ LM) hL7
                    refine rd_cat hL8 hD8 (by unfold nV; rw [List.length_map, List.length_map, List.length_map, sizeLine_eq]; omega) (fun D3 nD3 => ?_)
                    have a9 := Adv.new (M := []) (o := .lst (nV (le.map f) ++ nV (denyL ns1 (ri.map f)).1)) nD3
                    walk_at "rd"
                    refine ⟨Nat.zero_le _, fun R2 nR2 => ?_⟩
                    have a10 := a9.newT (o := .lst []) nR2
                    walk_at "rd"
                    refine ⟨_, D3, R2, le.map f ++ (denyL ns1 (ri.map f)).1, [], rfl, (B8.less (by simp +contextual) (by simp) (by simp)).same a10, a10.same _ _ (a8 _ _ (m01 _ kM) S7.hbk), ?_, upd_same, rfl, rfl, by rw [List.length_append, List.length_map]; omega, Nat.zero_le _, (S7.a.trans a8).trans (Adv.nil a10)⟩
                    rw [upd_ne (ne_of_none (upd_same) nR2), upd_same]
                    unfold nV
                    rw [List.map_append]
                · walk_at "rd"
                  have e3 : readC r ns le ri = ((newC r ns (le ++ ri)).1, srtN (le.map (newC r ns (le ++ ri)).2), srtN (ri.map (newC r ns (le ++ ri)).2)) := by unfold readC; rw [if_neg (by rw [e]; decide)]
                  rw [e3]
                  exact ⟨_, L, Rr, _, _, rfl, S7.B, S7.hbk, hL7, hR7, rfl, rfl, by rw [List.length_map]; omega, by rw [List.length_map]; omega, S7.a⟩
              · rintro σ' H7 ⟨y5, L, Rr, Ls, Rs, rfl, B7, hb7, hL7, hR7, eL, eR, zL, zR, a7⟩
                have eV : ∀ l : List Nat, nV l = (l.map fun r => ((r : Nat) : Int)).map V.int := fun l => by unfold nV; rw [List.map_map]; rfl
                walk_at "rd"
                refine ⟨Nat.zero_le _, fun em nem => ?_⟩
                have a8 : Adv [] H7 (upd H7 em (.tup [])) := Adv.new nem
                have hL8 := a8.same _ _ hL7
                have hR8 := a8.same _ _ hR7
                rw [eV] at hL8 hR8
                walk_at "rd"
                refine ⟨L, _, rfl, .inl (SqL.of hL8), by rw [List.length_map]; exact zL, fun p1 n _ np1 => ?_⟩
                refine ⟨p1, _, n, rfl, upd_same, fun ls p2 hs hm _ np2 => ?_⟩
                have e2 : ls = srtU (Ls.map fun r => ((r : Nat) : Int)) := srtU_of hs hm
                subst e2
                rw [nV_srt]
                refine ⟨p2, _, rfl, .inl ⟨SqL.of upd_same, fun t1 nt1 => ?_⟩⟩
                have a9 := (((Adv.new (M := []) (o := SetO w p1 (fun j => decide (j ∈ Ls.map fun r => ((r : Nat) : Int))) n) np1).newT (o := .lst (nVl (srtN Ls))) np2).newT (o := .tup (nVl (srtN Ls))) nt1)
                have hR9 := a9.same _ _ hR8
                walk_at "rd"
                refine ⟨Rr, _, rfl, .inl (SqL.of hR9), by rw [List.length_map]; exact zR, fun p3 n3 _ np3 => ?_⟩
                refine ⟨p3, _, n3, rfl, upd_same, fun ls3 p4 hs3 hm3 _ np4 => ?_⟩
                have e4 : ls3 = srtU (Rs.map fun r => ((r : Nat) : Int)) := srtU_of hs3 hm3
                subst e4
                rw [nV_srt]
                refine ⟨p4, _, rfl, .inl ⟨SqL.of upd_same, fun t2 nt2 => ?_⟩⟩
                have a10 := (((Adv.new (M := []) (o := SetO w p3 (fun j => decide (j ∈ Rs.map fun r => ((r : Nat) : Int))) n3) np3).newT (o := .lst (nVl (srtN Rs))) np4).newT (o := .tup (nVl (srtN Rs))) nt2)
                walk_at "rd"
                refine ⟨by show 4 ≤ sizeLine; decide, fun t nt => ?_⟩
                have a11 := Adv.new (M := []) (o := .tup [.ref b0, .ref em, .ref t1, .ref t2]) nt
                have c7 : Adv [] H H7 := (((Adv.nil a0).trans a7).drop n0).drop n1
                have c8 := c7.trans a8
                have c9 := c8.trans a9
                have c10 := c9.trans a10
                obtain ⟨rs7, h07, rd7⟩ := B7.rows
                have b0M : b0 ∉ M := fun z => al _ z n0
                rw [← eL, ← eR] at q
                refine q t _ ⟨⟨b0, em, t1, t2, rs7, upd_same, (((a8.trans a9).trans a10).trans a11).same _ _ h07, (rd7.less (by simp +contextual)).adv (Adv.nil (((a8.trans a9).trans a10).trans a11)), .inl ⟨fun z => al _ z (c7.free (by simp) nem), ?_⟩, .inl ⟨fun z => al _ z ?_, ?_⟩, .inl ⟨fun z => al _ z ?_, ?_⟩, n0, c10.free (by simp) nt⟩⟩ (c10.trans a11)
                · exact ((a9.trans a10).trans a11).same _ _ upd_same
                · exact c8.free (by simp) (((Adv.new (M := []) np1).newT np2).free (by simp) nt1)
                · exact (a10.trans a11).same _ _ upd_same
                · exact c9.free (by simp) (((Adv.new (M := []) np3).newT np4).free (by simp) nt2)
                · exact a11.same _ _ upd_same
end
end K60

set_option Elab.async false
set_option linter.all false
set_option maxRecDepth 100000
set_option maxHeartbeats 400000
namespace K60
open PySem PySem.Spec PyProof.Rows L2 LL
open C8 (pss_cut)
local macro_rules | `(tactic| walk_at "ne") => `(tactic| first | assumption | (apply Ne.symm; assumption) | exact ne_of_none (by walk_at "hp") (by assumption) | exact (ne_of_none (by walk_at "hp") (by assumption)).symm)
local macro_rules | `(tactic| walk_at "nm") => `(tactic| first | assumption | exact notin0 | exact notin1 (by walk_at "ne") | exact notin2 (by walk_at "ne") (by walk_at "ne"))
local macro_rules | `(tactic| walk_at "hp") => `(tactic| first | assumption | exact upd_same | (refine Eq.trans (upd_ne ?ne) ?hh; (case hh => walk_at "hp"); (case ne => walk_at "ne")) | (refine Adv.get' (by assumption) ?hh ?nn; (case hh => walk_at "hp"); (case nn => walk_at "nm")))
local macro_rules | `(tactic| walk_at "tp") => `(tactic| first | assumption | exact Tp.adv (by walk_at "tp") (by assumption) | exact Tp.adv (by walk_at "tp") (Adv.nil (by assumption)))
local macro_rules | `(tactic| walk_at "sq") => `(tactic| first | assumption | exact Tp.sq (by assumption) (by walk_at "tp") | exact SqT.of (by walk_at "hp"))
local macro_rules | `(tactic| walk_at "at") => `(tactic| first | exact atI_nat (j := 0) rfl | exact atI_nat (j := 1) rfl | exact atI_nat (j := 2) rfl | exact atI_nat (j := 3) rfl | exact atI_nat (by assumption) | (rw [Int.zero_add]; exact atI_nat (by assumption)))
local macro_rules | `(tactic| walk_at "bb") => `(tactic| first | assumption | decide | exact rfl)
local macro_rules | `(tactic| walk_at "ci") => `(tactic| first | omega | (dsimp only; omega) | (unfold CDiv; omega) | (unfold CMul; omega))
local macro_rules | `(tactic| walk_at "rd1") => `(tactic| first
  | with_reducible refine rd_c ?_
  | ((with_reducible refine' rd_var ?rh ?_); (case rh => exact rfl))
  | with_reducible refine rd_op ?_
  | with_reducible refine rd_seq ?_
  | with_reducible refine rd_asg ?_
  | with_reducible refine rd_gname ?_
  | with_reducible refine rd_ifS ?_
  | with_reducible refine rd_test ?_
  | with_reducible refine rd_tB ?_
  | with_reducible refine rd_blP ?_
  | ((with_reducible refine' iteY ?rh ?_); (case rh => walk_at "bb"))
  | ((with_reducible refine' iteN ?rh ?_); (case rh => walk_at "bb"))
  | with_reducible refine rd_ret ?_
  | with_reducible refine rd_nx ?_
  | ((with_reducible refine' rd_eq ?rh ?_); (case rh => exact rfl))
  | ((with_reducible refine' rd_ne ?rh ?_); (case rh => exact rfl))
  | with_reducible refine rd_add ?_
  | with_reducible refine rd_sub ?_
  | with_reducible refine rd_i0 ?_
  | with_reducible refine rd_and ?_
  | with_reducible refine rd_or ?_
  | with_reducible refine rd_not ?_
  | with_reducible refine rd_andV ?_
  | with_reducible refine rd_orV ?_
  | with_reducible refine rd_notV ?_
  | with_reducible refine rd_ifE ?_
  | with_reducible refine rd_isN ?_
  | with_reducible refine rd_notN ?_
  | with_reducible refine rd_cons ?_
  | with_reducible refine rd_nil ?_
  | with_reducible refine rd_tup ?_
  | with_reducible refine rd_lst ?_
  | with_reducible refine rd_call ?_
  | with_reducible refine rd_cb ?_
  | with_reducible refine rd_meth ?_
  | with_reducible refine rd_callS ?_
  | with_reducible refine rd_make ?_
  | with_reducible refine rd_rfl ?_
  | with_reducible refine rd_fld ?_
  | with_reducible refine rd_drop ?_
  | with_reducible refine rd_gsub ?_
  | with_reducible refine rd_gcons ?_
  | with_reducible refine rd_gnil ?_
  | with_reducible refine rd_par ?_
  | with_reducible refine rd_two ?_
  | with_reducible refine rd_par3 ?_
  | with_reducible refine rd_three ?_
  | with_reducible refine rd_int1 ?_
  | ((with_reducible refine' rd_i ?rh ?_); (case rh => walk_at "ci"))
  | with_reducible refine rd_part ?_
  | with_reducible refine rd_nopart ?_
  | with_reducible refine rd_int ?_
  | with_reducible refine rd_sl ?_
  | with_reducible refine rd_bm ?_
  | with_reducible refine rd_bm0 ?_
  | with_reducible refine rd_dgetT ?_
  | with_reducible refine rd_din ?_
  | with_reducible refine rd_dnin ?_
  | with_reducible refine rd_un ?_
  | ((with_reducible refine' rd_ixL ?rh ?re ?_); (case rh => walk_at "hp"); (case re => walk_at "at"))
  | ((with_reducible refine' rd_ixT ?rh ?re ?_); (case rh => walk_at "sq"); (case re => walk_at "at"))
  | ((with_reducible refine' rd_lenT ?rh ?_); (case rh => walk_at "sq"))
  | ((with_reducible refine' rd_tyL ?rh ?_); (case rh => walk_at "hp"))
  | ((with_reducible refine' rd_len ?rh ?_); (case rh => walk_at "hp"))
  | with_reducible refine rd_u ?_
  | ((with_reducible refine' rd_slL ?rh ?_); (case rh => walk_at "hp"))
  | with_reducible refine rd_for ?_
  | with_reducible refine rd_rng1 ?_
  | with_reducible refine rd_rng2 ?_
  | with_reducible refine rd_ints1 ?_
  | with_reducible refine rd_ints2 ?_
  | with_reducible refine rd_retN ?_)
local macro_rules | `(tactic| walk_at "rd") => `(tactic| repeat walk_at "rd1")
section
variable [KW]
variable {P : Program} {w : World} {K : PySem.W.Frag} {mg : Str → Option Value} {base : Heap}
/-! ### _law_due -/
theorem r7_any (x : Str) : ((["negative", "denied", "boxed", "doubled", "modal k", "modal s4", "modal gl"] : List Str).any fun y => decide (x = y)) = (r7Of x).isSome := by
  unfold r7Of
  simp only [List.any_cons, List.any_nil, Bool.or_false]
  repeat' split
  all_goals simp_all
structure DueQ (vs : List V) (H : Hp) (Q : VK) : Prop where
  ex : ∃ (M : List Addr) (v1 v2 : V) (d1 d2 e : PyData), vs = [v1, v2] ∧ (∀ b ∈ M, H b ≠ none) ∧ Is M H d1 v1 ∧ Is M H d2 v2 ∧ sz d2 ≤ 1000000 ∧ SmC d2 ∧ DueC d1 d2 e ∧ ∀ v' H', Is M H' e v' → Adv [] H H' → Q v' H'
def spDueC : Sp := fun vs H Q _ => DueQ vs H Q
theorem ok_law_due (A : All K mg w) : FnOk P w K mg base CX0 6 A.law_due.f A.law_due.fd ["reading", "claim"] spDueC := by
  refine A.law_due.F.ok sc_law_due (fun vs H Q E h => ?_) (fun cdv Ar outer s H vs Q E hr h => ?_)
  · obtain ⟨M, v1, v2, d1, d2, e, rfl, _⟩ := h.ex
    rfl
  · obtain ⟨M, v1, v2, d1, d2, e, rfl, al, h1, h2, hz, hs, hD, q⟩ := h.ex
    refine ⟨_, (pss_cons (ps_if (PW.pt (pw_or (pt_not (pt_val (pe_callB call_isi (by rfl) A.T.isinstance (by decide +kernel) (pa_cons (pv 0) (pa_cons (pe_bltn (v := .ty "str") (by rfl) A.T.str (by decide +kernel) rfl) pa_nil))))) (pw_or1 (pt_cmpR op_notIn_seq (pv 0) (pe_tup (pa_cons pe_str (pa_cons pe_str (pa_cons pe_str (pa_cons pe_str (pa_cons pe_str (pa_cons pe_str (pa_cons pe_str pa_nil)))))))) rfl))))
    (pss_one (ps_ret (pe_tup (pa_cons pe_str (pa_cons pe_str pa_nil)))))
    pss_nil)
  (pss_cons (ps_set (i := 2) sc_law_due.nd rfl (Or.inl rfl) (pe_call (ok_law_claim_error A) (hr.mono (by omega)) rfl A.law_claim_error.m A.law_claim_error.F.kp A.law_claim_error.b .nil pass0 (pa_cons (pv 1) pa_nil)))
  (pss_one (ps_ret (pe_ifExp (pt_cmpR op_isN (pv 2) pe_non (nomark _)) (pe_tup (pa_cons pe_str (pa_cons (pe_call (ok_law_read_claim A) (hr.mono (by omega)) rfl A.law_read_claim.m A.law_read_claim.F.kp A.law_read_claim.b .nil pass0 (pa_cons (pv 0) (pa_cons (pv 1) pa_nil))) pa_nil))) (pv 2)))))), ?_⟩
    refine ⟨_, rfl, _, _, _, _, _, rfl, .ty _, h1.ty A.W, k_str d1, _, rfl, ?_⟩
    have val : isR7 d1 = none → e = .tuple [.str "BadValue", .str "reading"] := fun h => by
      cases hD with
      | value _ => rfl
      | wrong r h' => rw [h] at h'; cases h'
      | told r h' => rw [h] at h'; cases h'
    by_cases hd : ∃ x, d1 = .str x
    · obtain ⟨x, rfl⟩ := hd
      cases h1.strE
      refine iteN rfl ?_
      walk_at "rd"
      refine ⟨by show 7 ≤ sizeLine; decide, fun p np => rd_inS (ws := ["negative", "denied", "boxed", "doubled", "modal k", "modal s4", "modal gl"]) upd_same ?_⟩
      rw [if_pos rfl, r7_any]
      have ap := Adv.new (M := []) (o := .tup ((["negative", "denied", "boxed", "doubled", "modal k", "modal s4", "modal gl"] : List Str).map V.str)) np
      have ap : Adv [] H (upd H p (.tup [.str "negative", .str "denied", .str "boxed", .str "doubled", .str "modal k", .str "modal s4", .str "modal gl"])) := ap
      generalize (upd H p (.tup [.str "negative", .str "denied", .str "boxed", .str "doubled", .str "modal k", .str "modal s4", .str "modal gl"])) = H1 at ap
      have al1 := alloc_adv al ap (by simp)
      walk_at "rd"
      cases e0 : r7Of x with
      | none =>
        rw [val e0] at q
        refine iteY rfl ?_
        walk_at "rd"
        refine ⟨by show 2 ≤ sizeLine; decide, fun p np => ?_⟩
        exact q _ _ (Is.tup upd_same (not_mem_new al1 np) (.cons .str (.cons .str .nil))) (ap.newT np)
      | some r =>
        cases r7_str e0
        refine iteN rfl ?_
        walk_at "rd"
        refine ⟨⟨M, v2, d2, rfl, al1, h2.adv (Adv.nil ap), hz, fun ec H2 a2 => ?_, fun c y ec v' H2 hi hv a2 => ?_⟩⟩
        · obtain ⟨ns, le, ri, rfl, ok⟩ := claimW_none ec
          obtain ⟨cl, vs, rfl, hcl, hsC⟩ := h2.tupE
          obtain ⟨va, vb, vc, ve, rfl, ha, hb, hc, he⟩ := IsDs.four hsC
          obtain ⟨sh, rs, rfl, _, hsh, rd⟩ := ha.lstE
          obtain ⟨lt, ls, rfl, hlt, hls⟩ := hc.tupE
          obtain ⟨rt, rr, rfl, hrt, hrr⟩ := he.tupE
          rw [nD_of hls] at hlt
          rw [nD_of hrr] at hrt
          have a12 := ap.trans a2
          have al2 := alloc_adv al a12 (by simp)
          have ee : e = .tuple [.str "told", clD (readC r ns le ri).1 (readC r ns le ri).2.1 (readC r ns le ri).2.2] := by
            cases hD with
            | value h' => have h' : r7Of r.str = none := h'; rw [e0] at h'; cases h'
            | wrong r h' c x h2 => rw [ec] at h2; cases h2
            | told r' h' ns' le' ri' hc' =>
              have h' : r7Of r.str = some r' := h'
              rw [e0] at h'
              cases h'
              obtain ⟨x1, x2, x3⟩ := clD_inj hc'
              subst x1 x2 x3
              rfl
          rw [ee] at q
          walk_at "rd"
          refine ⟨⟨M, cl, sh, lt, rt, vb, rs, ns, le, ri, r, rfl, al2, hcl.adv (Adv.nil a12), a12.same _ _ hsh, rd.adv (Adv.nil a12), hlt.adv (Adv.nil a12), hrt.adv (Adv.nil a12), ok, hs.cl, fun t H3 o a3 => ?_⟩⟩
          have is3 := o.is al2
          have al3 := alloc_adv al2 a3 (by simp)
          walk_at "rd"
          refine ⟨by show 2 ≤ sizeLine; decide, fun p np => ?_⟩
          have a4 := Adv.new (M := []) (o := .tup [.str "told", .ref t]) np
          exact q _ _ (Is.tup upd_same (not_mem_new al3 np) (.cons .str (.cons (is3.adv (Adv.nil a4)) .nil))) ((a12.trans a3).trans a4)
        · have ee : e = .tuple [.str c, y] := by
            cases hD with
            | value h' => have h' : r7Of r.str = none := h'; rw [e0] at h'; cases h'
            | wrong r h' c' x' h2 => rw [ec] at h2; cases h2; rfl
            | told r' h' ns' le' ri' hc' h2 => rw [ec] at h2; cases h2
          rw [ee] at q
          walk_at "rd"
          refine iteN (by simp [hv]) ?_
          walk_at "rd"
          exact q _ _ hi (ap.trans a2)
    · have e0 : isR7 d1 = none := by
        cases d1 with
        | str x => exact absurd ⟨x, rfl⟩ hd
        | _ => rfl
      have e1 : kitD d1 "str" = false := by
        cases d1 with
        | str x => exact absurd ⟨x, rfl⟩ hd
        | _ => simp [kitD, tyN]
      rw [val e0] at q
      refine iteY (by rw [e1]; rfl) (iteY rfl ?_)
      walk_at "rd"
      refine ⟨by show 2 ≤ sizeLine; decide, fun p np => ?_⟩
      exact q _ _ (Is.tup upd_same (not_mem_new al np) (.cons .str (.cons .str .nil))) (Adv.new np)
end
end K60

set_option Elab.async false
set_option linter.all false
set_option maxRecDepth 100000
set_option maxHeartbeats 400000
namespace K60
open PySem PySem.Spec PyProof.Rows L2 LL
open C8 (pss_cut)
local macro_rules | `(tactic| walk_at "ne") => `(tactic| first | assumption | (apply Ne.symm; assumption) | exact ne_of_none (by walk_at "hp") (by assumption) | exact (ne_of_none (by walk_at "hp") (by assumption)).symm)
local macro_rules | `(tactic| walk_at "nm") => `(tactic| first | assumption | exact notin0 | exact notin1 (by walk_at "ne") | exact notin2 (by walk_at "ne") (by walk_at "ne"))
local macro_rules | `(tactic| walk_at "hp") => `(tactic| first | assumption | exact upd_same | (refine Eq.trans (upd_ne ?ne) ?hh; (case hh => walk_at "hp"); (case ne => walk_at "ne")) | (refine Adv.get' (by assumption) ?hh ?nn; (case hh => walk_at "hp"); (case nn => walk_at "nm")))
local macro_rules | `(tactic| walk_at "tp") => `(tactic| first | assumption | exact Tp.adv (by walk_at "tp") (by assumption) | exact Tp.adv (by walk_at "tp") (Adv.nil (by assumption)))
local macro_rules | `(tactic| walk_at "sq") => `(tactic| first | assumption | exact Tp.sq (by assumption) (by walk_at "tp") | exact SqT.of (by walk_at "hp"))
local macro_rules | `(tactic| walk_at "at") => `(tactic| first | exact atI_nat (j := 0) rfl | exact atI_nat (j := 1) rfl | exact atI_nat (j := 2) rfl | exact atI_nat (j := 3) rfl | exact atI_nat (by assumption) | (rw [Int.zero_add]; exact atI_nat (by assumption)))
local macro_rules | `(tactic| walk_at "bb") => `(tactic| first | assumption | decide | exact rfl)
local macro_rules | `(tactic| walk_at "ci") => `(tactic| first | omega | (dsimp only; omega) | (unfold CDiv; omega) | (unfold CMul; omega))
local macro_rules | `(tactic| walk_at "rd1") => `(tactic| first
  | with_reducible refine rd_c ?_
  | ((with_reducible refine' rd_var ?rh ?_); (case rh => exact rfl))
  | with_reducible refine rd_op ?_
  | with_reducible refine rd_seq ?_
  | with_reducible refine rd_asg ?_
  | with_reducible refine rd_gname ?_
  | with_reducible refine rd_ifS ?_
  | with_reducible refine rd_test ?_
  | with_reducible refine rd_tB ?_
  | with_reducible refine rd_blP ?_
  | ((with_reducible refine' iteY ?rh ?_); (case rh => walk_at "bb"))
  | ((with_reducible refine' iteN ?rh ?_); (case rh => walk_at "bb"))
  | with_reducible refine rd_ret ?_
  | with_reducible refine rd_nx ?_
  | ((with_reducible refine' rd_eq ?rh ?_); (case rh => exact rfl))
  | ((with_reducible refine' rd_ne ?rh ?_); (case rh => exact rfl))
  | with_reducible refine rd_add ?_
  | with_reducible refine rd_sub ?_
  | with_reducible refine rd_i0 ?_
  | with_reducible refine rd_and ?_
  | with_reducible refine rd_or ?_
  | with_reducible refine rd_not ?_
  | with_reducible refine rd_andV ?_
  | with_reducible refine rd_orV ?_
  | with_reducible refine rd_notV ?_
  | with_reducible refine rd_ifE ?_
  | with_reducible refine rd_isN ?_
  | with_reducible refine rd_notN ?_
  | with_reducible refine rd_cons ?_
  | with_reducible refine rd_nil ?_
  | with_reducible refine rd_tup ?_
  | with_reducible refine rd_lst ?_
  | with_reducible refine rd_call ?_
  | with_reducible refine rd_cb ?_
  | with_reducible refine rd_meth ?_
  | with_reducible refine rd_callS ?_
  | with_reducible refine rd_make ?_
  | with_reducible refine rd_rfl ?_
  | with_reducible refine rd_fld ?_
  | with_reducible refine rd_drop ?_
  | with_reducible refine rd_gsub ?_
  | with_reducible refine rd_gcons ?_
  | with_reducible refine rd_gnil ?_
  | with_reducible refine rd_par ?_
  | with_reducible refine rd_two ?_
  | with_reducible refine rd_par3 ?_
  | with_reducible refine rd_three ?_
  | with_reducible refine rd_int1 ?_
  | ((with_reducible refine' rd_i ?rh ?_); (case rh => walk_at "ci"))
  | with_reducible refine rd_part ?_
  | with_reducible refine rd_nopart ?_
  | with_reducible refine rd_int ?_
  | with_reducible refine rd_sl ?_
  | with_reducible refine rd_bm ?_
  | with_reducible refine rd_bm0 ?_
  | with_reducible refine rd_dgetT ?_
  | with_reducible refine rd_din ?_
  | with_reducible refine rd_dnin ?_
  | with_reducible refine rd_un ?_
  | ((with_reducible refine' rd_ixL ?rh ?re ?_); (case rh => walk_at "hp"); (case re => walk_at "at"))
  | ((with_reducible refine' rd_ixT ?rh ?re ?_); (case rh => walk_at "sq"); (case re => walk_at "at"))
  | ((with_reducible refine' rd_lenT ?rh ?_); (case rh => walk_at "sq"))
  | ((with_reducible refine' rd_tyL ?rh ?_); (case rh => walk_at "hp"))
  | ((with_reducible refine' rd_len ?rh ?_); (case rh => walk_at "hp"))
  | with_reducible refine rd_u ?_
  | ((with_reducible refine' rd_slL ?rh ?_); (case rh => walk_at "hp"))
  | with_reducible refine rd_for ?_
  | with_reducible refine rd_rng1 ?_
  | with_reducible refine rd_rng2 ?_
  | with_reducible refine rd_ints1 ?_
  | with_reducible refine rd_ints2 ?_
  | with_reducible refine rd_retN ?_)
local macro_rules | `(tactic| walk_at "rd") => `(tactic| repeat walk_at "rd1")
section
variable [KW]
variable {P : Program} {w : World} {K : PySem.W.Frag} {mg : Str → Option Value} {base : Heap}
theorem nam_S {Z : Exs K mg} (N : NF Z "BadSheet") : Nam K mg Z "BadSheet" := ⟨N, 1, rfl, by decide, rfl, fun m hm z hz => by obtain rfl : m = 0 := by { omega }; cases hz; decide⟩
theorem nam_C {Z : Exs K mg} (N : NF Z "BadClaim") : Nam K mg Z "BadClaim" := ⟨N, 2, rfl, by decide, rfl, fun m hm z hz => by
  have : m = 0 ∨ m = 1 := by omega
  rcases this with rfl | rfl <;> (cases hz; decide)⟩
theorem nam_V {Z : Exs K mg} (N : NF Z "BadValue") : Nam K mg Z "BadValue" := ⟨N, 7, rfl, by decide, rfl, fun m hm z hz => by
  have : m = 0 ∨ m = 1 ∨ m = 2 ∨ m = 3 ∨ m = 4 ∨ m = 5 ∨ m = 6 := by omega
  rcases this with rfl | rfl | rfl | rfl | rfl | rfl | rfl <;> (cases hz; decide)⟩
/-- the told claim is new -/
def ToldC (H H' : Hp) (v' : V) (e : PyData) : Prop := ∀ ns l r, e = .tuple [.str "told", clD ns l r] → ∃ (t1 t2 L : Addr) (x y z : V) (rs : List V), v' = .ref t1 ∧ H' t1 = some (.tup [.str "told", .ref t2]) ∧ H' t2 = some (.tup [.ref L, x, y, z]) ∧ H' L = some (.lst rs) ∧ rs.length = ns.length ∧ H L = none
theorem toldC_no {H H' : Hp} {v' : V} {c : Str} {x : PyData} (h : c ≠ "told") : ToldC H H' v' (.tuple [.str c, x]) := fun ns l r e => by
  injection e with e
  injection e with e1 e2
  injection e1 with e1
  exact absurd e1 h
/-! ### _law_asked -/
structure AskQ (vs : List V) (H : Hp) (Q : VK) : Prop where
  ex : ∃ (M : List Addr) (v1 v2 : V) (d1 d2 e : PyData), vs = [v1, v2] ∧ (∀ b ∈ M, H b ≠ none) ∧ Is M H d1 v1 ∧ Is M H d2 v2 ∧ dep d2 ≤ 4 ∧ sz d2 ≤ 1000000 ∧ SmC d2 ∧ DueC d1 d2 e ∧ ∀ v' H', Is M H' e v' → Adv [] H H' → ToldC H H' v' e → Q v' H'
def spAskC : Sp := fun vs H Q _ => AskQ vs H Q
theorem ok_law_asked (A : All K mg w) (G : Grw K mg) (R : Rds A) (Z : Exs K mg) (Z1 : Er_BadSheet Z) (Z2 : Er_BadValue Z) (Z3 : Er_BadClaim Z) : FnOk P w K mg base CX0 10 A.law_asked.f A.law_asked.fd ["reading", "claim"] spAskC := by
  refine A.law_asked.F.ok sc_law_asked (fun vs H Q E h => ?_) (fun cdv Ar outer s H vs Q E hr h => ?_)
  · obtain ⟨M, v1, v2, d1, d2, e, rfl, _⟩ := h.ex
    rfl
  · obtain ⟨M, v1, v2, d1, d2, e, rfl, al, h1, h2, hdep, hz, hs, hD, q⟩ := h.ex
    refine ⟨_, (pss_cons (ps_set (i := 2) sc_law_asked.nd rfl (Or.inl rfl) (pe_call (ok_law_copy A 4) (hr.mono (by omega)) rfl A.law_copy.m A.law_copy.F.kp A.law_copy.b .nil pass0 (pa_cons (pv 1) pa_nil)))
  (pss_cons (ps_tryAs (n := "error") (i := 4) (Wout := fun _ _ _ _ => False) rfl rfl sc_law_asked.nd rfl rfl takes_no
    (fun W pn xe tk po => (pss_one (ps_set (i := 3) sc_law_asked.nd rfl (Or.inl rfl) (pe_callS (ok_reading_of A G R Z Z1 Z2 Z3) (hr.mono (by omega)) rfl A.reading_of.m A.reading_of.F.kp A.reading_of.b (fun σ => L2N.passAt tk σ) (pa_cons (pv 0) (pa_cons (pv 2) pa_nil))))))
    (.cons (c := .ref Z.CE) ⟨rfl, by decide, .inl Z.mC⟩ (fun a oe cls d pn hz hf => (pss_cons (ps_set (i := 5) sc_law_asked.nd rfl (Or.inl rfl) (pe_named (X := (cxOf CX0 P w K mg base ["reading", "claim", "handed", "told", "error", "name"] "_law_asked" (defScope s_law_asked) A.law_asked.f cdv Ar outer s H E).nox) (pn := pn) A Z (hr.mono (by omega)) (by rfl) hz.zc hf (pv 4)))
  (pss_cons (ps_if (pt_cmpR op_eq (pv 5) pe_str (nomark _))
    (pss_one (ps_ret (pe_tup (pa_cons (pv 5) (pa_cons (pe_xf Z1.X Z1.A_ hz.zc hf (pv 4)) pa_nil)))))
    pss_nil)
  (pss_one (ps_ret (pe_tup (pa_cons (pv 5) (pa_cons (pe_ifExp (pt_cmpR op_eq (pv 5) pe_str (nomark _)) (pe_xf Z2.X Z2.A_ hz.zc hf (pv 4)) (pe_ifExp (pt_cmpR op_eq (pv 5) pe_str (nomark _)) (pe_xf Z3.X Z3.A_ hz.zc hf (pv 4)) pe_non)) pa_nil)))))))) .nil))
  (pss_one (ps_ret (pe_ifExp (pt_val (pe_call (ok_law_same A) (hr.mono (by omega)) rfl A.law_same.m A.law_same.F.kp A.law_same.b .nil pass0 (pa_cons (pv 2) (pa_cons (pv 1) pa_nil)))) (pe_tup (pa_cons pe_str (pa_cons (pv 3) pa_nil))) (pe_tup (pa_cons pe_str (pa_cons pe_non pa_nil)))))))), ?_⟩
    walk_at "rd"
    refine ⟨v2, d2, M, rfl, al, h2, by omega, hz, fun v3 H1 h3 a1 => ?_⟩
    have al1 : ∀ b ∈ M, H1 b ≠ none := alloc_adv al a1 (by simp)
    walk_at "rd"
    refine ⟨_, _, rfl, ⟨⟨M, d1, d2, al1, h1.adv (Adv.nil a1), h3, hz, hs, fun e0 dd H2 a2 n2 hdd => ?_, fun r e0 i hi dd H2 a2 n2 hdd => ?_, fun r e0 z hi dd H2 a2 n2 hdd => ?_, fun r ns le ri e0 hd hw ok t H2 o a2 => ?_⟩⟩⟩
    · have ee : e = .tuple [.str "BadValue", .str "reading"] := by
        cases hD with
        | value _ => rfl
        | wrong r h' => rw [e0] at h'; cases h'
        | told r h' => rw [e0] at h'; cases h'
      refine ⟨true, Z2.N.hC, fun _ a na => ?_, (fun z => nomatch z)⟩
      refine ⟨_, rfl, rfl, "BadValue", nam_V Z2.N, rfl, fun dd' z => ⟨_, by cases z; exact hdd⟩, fun H3 a3 => ?_⟩
      walk_at "rd"
      refine ⟨_, rfl, rfl, rfl, dd, _, .str "reading", rfl, a3.same _ _ hdd, rfl, ?_⟩
      walk_at "rd"
      refine ⟨by show 2 ≤ sizeLine; decide, fun p np => ?_⟩
      subst ee
      exact q _ _ (Is.tup upd_same (not_mem_new (alloc_adv al1 (a2.trans a3) (by simp)) np) (.cons .str (.cons .str .nil))) (((a1.trans a2).trans a3).newT np) (toldC_no (by decide))
    · have ee : e = .tuple [.str "BadSheet", .int i] := by
        cases hD with
        | value h' => rw [e0] at h'; cases h'
        | wrong r h' c x h2 => rw [hi] at h2; cases h2; rfl
        | told r h' ns le ri hc h2 => rw [hi] at h2; cases h2
      refine ⟨true, Z1.N.hC, fun _ a na => ?_, (fun z => nomatch z)⟩
      refine ⟨_, rfl, rfl, "BadSheet", nam_S Z1.N, rfl, fun dd' z => ⟨_, by cases z; exact hdd⟩, fun H3 a3 => ?_⟩
      walk_at "rd"
      refine ⟨_, rfl, rfl, rfl, dd, _, .int i, rfl, a3.same _ _ hdd, rfl, ?_⟩
      walk_at "rd"
      refine ⟨by show 2 ≤ sizeLine; decide, fun p np => ?_⟩
      subst ee
      exact q _ _ (Is.tup upd_same (not_mem_new (alloc_adv al1 (a2.trans a3) (by simp)) np) (.cons .str (.cons .int .nil))) (((a1.trans a2).trans a3).newT np) (toldC_no (by decide))
    · have ee : e = .tuple [.str "BadClaim", .str z] := by
        cases hD with
        | value h' => rw [e0] at h'; cases h'
        | wrong r h' c x h2 => rw [hi] at h2; cases h2; rfl
        | told r h' ns le ri hc h2 => rw [hi] at h2; cases h2
      refine ⟨true, Z3.N.hC, fun _ a na => ?_, (fun z => nomatch z)⟩
      refine ⟨_, rfl, rfl, "BadClaim", nam_C Z3.N, rfl, fun dd' z => ⟨_, by cases z; exact hdd⟩, fun H3 a3 => ?_⟩
      walk_at "rd"
      refine ⟨_, rfl, rfl, rfl, dd, _, .str z, rfl, a3.same _ _ hdd, rfl, ?_⟩
      walk_at "rd"
      refine ⟨by show 2 ≤ sizeLine; decide, fun p np => ?_⟩
      subst ee
      exact q _ _ (Is.tup upd_same (not_mem_new (alloc_adv al1 (a2.trans a3) (by simp)) np) (.cons .str (.cons .str .nil))) (((a1.trans a2).trans a3).newT np) (toldC_no (by decide))
    · have ee : e = .tuple [.str "told", clD (readC r ns le ri).1 (readC r ns le ri).2.1 (readC r ns le ri).2.2] := by
        cases hD with
        | value h' => rw [e0] at h'; cases h'
        | wrong r h' c x h2 => rw [hw] at h2; cases h2
        | told r' h' ns' le' ri' hc' =>
          rw [e0] at h'
          cases h'
          obtain ⟨x1, x2, x3⟩ := clD_inj (hd.symm.trans hc')
          subst x1 x2 x3
          rfl
      have al2 := alloc_adv al1 a2 (by simp)
      have is2 := o.is al1
      walk_at "rd"
      refine ⟨v3, v2, d2, rfl, (h3.adv (Adv.nil a2)).less (by simp), ((h2.adv (Adv.nil a1)).adv (Adv.nil a2)).less (by simp), hz, fun H3 a3 => ?_⟩
      walk_at "rd"
      refine ⟨by show 2 ≤ sizeLine; decide, fun p np => ?_⟩
      subst ee
      have ap := Adv.new (M := []) (o := .tup [.str "told", .ref t]) np
      have c3 := a3.trans ap
      refine q _ _ (Is.tup upd_same (not_mem_new (alloc_adv al2 a3 (by simp)) np) (.cons .str (.cons (is2.adv (Adv.nil c3)) .nil))) ((a1.trans a2).trans c3) (fun ns' l' r' z => ?_)
      injection z with z
      injection z with z1 z2
      injection z2 with z2 z3
      obtain ⟨y1, y2, y3⟩ := clD_inj z2
      subst y1 y2 y3
      obtain ⟨L, em, l2, r2, rs, x1, x2, x3, x4, x5, x6, x7, x8⟩ := o.ex
      have hlen := x3.len
      rw [List.length_map] at hlen
      exact ⟨p, t, L, _, _, _, rs, rfl, upd_same, c3.same _ _ x1, c3.same _ _ x2, hlen, a1.free (by simp) x7⟩
end
end K60

set_option Elab.async false
set_option linter.all false
set_option maxRecDepth 100000
set_option maxHeartbeats 400000
namespace K60
open PySem PySem.Spec PyProof.Rows L2 LL
open C8 (pss_cut)
local macro_rules | `(tactic| walk_at "ne") => `(tactic| first | assumption | (apply Ne.symm; assumption) | exact ne_of_none (by walk_at "hp") (by assumption) | exact (ne_of_none (by walk_at "hp") (by assumption)).symm)
local macro_rules | `(tactic| walk_at "nm") => `(tactic| first | assumption | exact notin0 | exact notin1 (by walk_at "ne") | exact notin2 (by walk_at "ne") (by walk_at "ne"))
local macro_rules | `(tactic| walk_at "hp") => `(tactic| first | assumption | exact upd_same | (refine Eq.trans (upd_ne ?ne) ?hh; (case hh => walk_at "hp"); (case ne => walk_at "ne")) | (refine Adv.get' (by assumption) ?hh ?nn; (case hh => walk_at "hp"); (case nn => walk_at "nm")))
local macro_rules | `(tactic| walk_at "tp") => `(tactic| first | assumption | exact Tp.adv (by walk_at "tp") (by assumption) | exact Tp.adv (by walk_at "tp") (Adv.nil (by assumption)))
local macro_rules | `(tactic| walk_at "sq") => `(tactic| first | assumption | exact Tp.sq (by assumption) (by walk_at "tp") | exact SqT.of (by walk_at "hp"))
local macro_rules | `(tactic| walk_at "at") => `(tactic| first | exact atI_nat (j := 0) rfl | exact atI_nat (j := 1) rfl | exact atI_nat (j := 2) rfl | exact atI_nat (j := 3) rfl | exact atI_nat (by assumption) | (rw [Int.zero_add]; exact atI_nat (by assumption)))
local macro_rules | `(tactic| walk_at "bb") => `(tactic| first | assumption | decide | exact rfl)
local macro_rules | `(tactic| walk_at "ci") => `(tactic| first | omega | (dsimp only; omega) | (unfold CDiv; omega) | (unfold CMul; omega))
local macro_rules | `(tactic| walk_at "rd1") => `(tactic| first
  | with_reducible refine rd_c ?_
  | ((with_reducible refine' rd_var ?rh ?_); (case rh => exact rfl))
  | with_reducible refine rd_op ?_
  | with_reducible refine rd_seq ?_
  | with_reducible refine rd_asg ?_
  | with_reducible refine rd_gname ?_
  | with_reducible refine rd_ifS ?_
  | with_reducible refine rd_test ?_
  | with_reducible refine rd_tB ?_
  | with_reducible refine rd_blP ?_
  | ((with_reducible refine' iteY ?rh ?_); (case rh => walk_at "bb"))
  | ((with_reducible refine' iteN ?rh ?_); (case rh => walk_at "bb"))
  | with_reducible refine rd_ret ?_
  | with_reducible refine rd_nx ?_
  | ((with_reducible refine' rd_eq ?rh ?_); (case rh => exact rfl))
  | ((with_reducible refine' rd_ne ?rh ?_); (case rh => exact rfl))
  | with_reducible refine rd_add ?_
  | with_reducible refine rd_sub ?_
  | with_reducible refine rd_i0 ?_
  | with_reducible refine rd_and ?_
  | with_reducible refine rd_or ?_
  | with_reducible refine rd_not ?_
  | with_reducible refine rd_andV ?_
  | with_reducible refine rd_orV ?_
  | with_reducible refine rd_notV ?_
  | with_reducible refine rd_ifE ?_
  | with_reducible refine rd_isN ?_
  | with_reducible refine rd_notN ?_
  | with_reducible refine rd_cons ?_
  | with_reducible refine rd_nil ?_
  | with_reducible refine rd_tup ?_
  | with_reducible refine rd_lst ?_
  | with_reducible refine rd_call ?_
  | with_reducible refine rd_cb ?_
  | with_reducible refine rd_meth ?_
  | with_reducible refine rd_callS ?_
  | with_reducible refine rd_make ?_
  | with_reducible refine rd_rfl ?_
  | with_reducible refine rd_fld ?_
  | with_reducible refine rd_drop ?_
  | with_reducible refine rd_gsub ?_
  | with_reducible refine rd_gcons ?_
  | with_reducible refine rd_gnil ?_
  | with_reducible refine rd_par ?_
  | with_reducible refine rd_two ?_
  | with_reducible refine rd_par3 ?_
  | with_reducible refine rd_three ?_
  | with_reducible refine rd_int1 ?_
  | ((with_reducible refine' rd_i ?rh ?_); (case rh => walk_at "ci"))
  | with_reducible refine rd_part ?_
  | with_reducible refine rd_nopart ?_
  | with_reducible refine rd_int ?_
  | with_reducible refine rd_sl ?_
  | with_reducible refine rd_bm ?_
  | with_reducible refine rd_bm0 ?_
  | with_reducible refine rd_dgetT ?_
  | with_reducible refine rd_din ?_
  | with_reducible refine rd_dnin ?_
  | with_reducible refine rd_un ?_
  | ((with_reducible refine' rd_ixL ?rh ?re ?_); (case rh => walk_at "hp"); (case re => walk_at "at"))
  | ((with_reducible refine' rd_ixT ?rh ?re ?_); (case rh => walk_at "sq"); (case re => walk_at "at"))
  | ((with_reducible refine' rd_lenT ?rh ?_); (case rh => walk_at "sq"))
  | ((with_reducible refine' rd_tyL ?rh ?_); (case rh => walk_at "hp"))
  | ((with_reducible refine' rd_len ?rh ?_); (case rh => walk_at "hp"))
  | with_reducible refine rd_u ?_
  | ((with_reducible refine' rd_slL ?rh ?_); (case rh => walk_at "hp"))
  | with_reducible refine rd_for ?_
  | with_reducible refine rd_rng1 ?_
  | with_reducible refine rd_rng2 ?_
  | with_reducible refine rd_ints1 ?_
  | with_reducible refine rd_ints2 ?_
  | with_reducible refine rd_retN ?_)
local macro_rules | `(tactic| walk_at "rd") => `(tactic| repeat walk_at "rd1")
section
variable [KW]
variable {P : Program} {w : World} {K : PySem.W.Frag} {mg : Str → Option Value} {base : Heap}
/-! ### _law_asked_logics -/
structure AskLP (vs : List V) (H : Hp) (Q : VK) : Prop where
  ex : ∃ (M : List Addr) (v : V) (d : PyData), vs = [v] ∧ (∀ b ∈ M, H b ≠ none) ∧ Is M H d v ∧ (isR7 d = none → ∀ v' H', Is M H' (.tuple [.str "BadValue", .str "reading"]) v' → Adv [] H H' → Q v' H') ∧
    ∀ r, isR7 d = some r → ∀ v' H', Is M H' (.tuple [.str "told", .tuple [.str r.lo, .str r.hi]]) v' → Adv [] H H' → Q v' H'
def spAskL : Sp := fun vs H Q _ => AskLP vs H Q
theorem ok_law_asked_logics (A : All K mg w) (Z : Exs K mg) (Z2 : Er_BadValue Z) : FnOk P w K mg base CX0 5 A.law_asked_logics.f A.law_asked_logics.fd ["reading"] spAskL := by
  refine A.law_asked_logics.F.ok sc_law_asked_logics (fun vs H Q E h => ?_) (fun cdv Ar outer s H vs Q E hr h => ?_)
  · obtain ⟨M, v, d, rfl, _⟩ := h.ex
    rfl
  · obtain ⟨M, v, d, rfl, al, h1, q1, q2⟩ := h.ex
    refine ⟨_, (pss_cons (ps_tryAs (n := "error") (i := 2) (Wout := fun _ _ _ _ => False) rfl rfl sc_law_asked_logics.nd rfl rfl takes_no
    (fun W pn xe tk po => (pss_one (ps_set (i := 1) sc_law_asked_logics.nd rfl (Or.inl rfl) (pe_callS (ok_logics_of A Z Z2) (hr.mono (by omega)) rfl A.logics_of.m A.logics_of.F.kp A.logics_of.b (fun σ => L2N.passAt tk σ) (pa_cons (pv 0) pa_nil)))))
    (.cons (c := .ref Z.CE) ⟨rfl, by decide, .inl Z.mC⟩ (fun a oe cls d pn hz hf => (pss_cons (ps_set (i := 3) sc_law_asked_logics.nd rfl (Or.inl rfl) (pe_named (X := (cxOf CX0 P w K mg base ["reading", "told", "error", "name"] "_law_asked_logics" (defScope s_law_asked_logics) A.law_asked_logics.f cdv Ar outer s H E).nox) (pn := pn) A Z (hr.mono (by omega)) (by rfl) hz.zc hf (pv 2)))
  (pss_one (ps_ret (pe_tup (pa_cons (pv 3) (pa_cons (pe_ifExp (pt_cmpR op_eq (pv 3) pe_str (nomark _)) (pe_xf Z2.X Z2.A_ hz.zc hf (pv 2)) pe_non) pa_nil))))))) .nil))
  (pss_one (ps_ret (pe_tup (pa_cons pe_str (pa_cons (pv 1) pa_nil)))))), ?_⟩
    walk_at "rd"
    refine ⟨v, rfl, ⟨d, h1.less (by simp), fun e0 dd H2 a2 n2 hdd => ?_, fun r e0 t ht => ?_⟩⟩
    · refine ⟨true, Z2.N.hC, fun _ a na => ?_, (fun z => nomatch z)⟩
      refine ⟨_, rfl, rfl, "BadValue", nam_V Z2.N, rfl, fun dd' z => ⟨_, by cases z; exact hdd⟩, fun H3 a3 => ?_⟩
      walk_at "rd"
      refine ⟨_, rfl, rfl, rfl, dd, _, .str "reading", rfl, a3.same _ _ hdd, rfl, ?_⟩
      walk_at "rd"
      refine ⟨by show 2 ≤ sizeLine; decide, fun p np => ?_⟩
      exact q1 e0 _ _ (Is.tup upd_same (not_mem_new (alloc_adv al (a2.trans a3) (by simp)) np) (.cons .str (.cons .str .nil))) ((a2.trans a3).newT np)
    · walk_at "rd"
      refine ⟨by show 2 ≤ sizeLine; decide, fun p np => ?_⟩
      exact q2 r e0 _ _ (Is.tup upd_same (not_mem_new al np) (.cons .str (.cons (Is.tp (.inr ht) (.cons .str (.cons .str .nil))) .nil))) (Adv.new np)
/-! ### _law_logics -/
def lgK (t1 t2 t3 t4 : Addr) : List (Key × V) := [((Sum.inr "boxed" : Key), V.ref t1), (Sum.inr "doubled", V.ref t2), (Sum.inr "modal k", V.ref t3), (Sum.inr "modal s4", V.ref t4)]
theorem lgK_b (t1 t2 t3 t4 : Addr) : valV (mergeK [] (lgK t1 t2 t3 t4)) (Sum.inr R7.box.str) = some (.ref t1) := by kernel_rfl
theorem lgK_d (t1 t2 t3 t4 : Addr) : valV (mergeK [] (lgK t1 t2 t3 t4)) (Sum.inr R7.dou.str) = some (.ref t2) := by kernel_rfl
theorem lgK_k (t1 t2 t3 t4 : Addr) : valV (mergeK [] (lgK t1 t2 t3 t4)) (Sum.inr R7.mk.str) = some (.ref t3) := by kernel_rfl
theorem lgK_s (t1 t2 t3 t4 : Addr) : valV (mergeK [] (lgK t1 t2 t3 t4)) (Sum.inr R7.ms.str) = some (.ref t4) := by kernel_rfl
theorem lgK_g (t1 t2 t3 t4 : Addr) : valV (mergeK [] (lgK t1 t2 t3 t4)) (Sum.inr R7.mg.str) = none := by kernel_rfl
structure LogQ (vs : List V) (H : Hp) (Q : VK) : Prop where
  ex : ∃ (M : List Addr) (r : R7), vs = [.str r.str] ∧ (∀ b ∈ M, H b ≠ none) ∧ ∀ v' H', Is M H' (.tuple [.str r.lo, .str r.hi]) v' → Adv [] H H' → Q v' H'
def spLogQ : Sp := fun vs H Q _ => LogQ vs H Q
theorem ok_law_logics (A : All K mg w) : FnOk P w K mg base CX0 1 A.law_logics.f A.law_logics.fd ["reading"] spLogQ := by
  refine A.law_logics.F.ok sc_law_logics (fun vs H Q E h => ?_) (fun cdv Ar outer s H vs Q E hr h => ?_)
  · obtain ⟨M, r, rfl, _⟩ := h.ex
    rfl
  · obtain ⟨M, r, rfl, al, q⟩ := h.ex
    refine ⟨_, (pss_cons (ps_if (pt_cmpR op_in_seq (pv 0) (pe_tup (pa_cons pe_str (pa_cons pe_str pa_nil))) rfl)
    (pss_one (ps_ret (pe_tup (pa_cons pe_str (pa_cons pe_str pa_nil)))))
    pss_nil)
  (pss_one (ps_ret (pe_dget2 (hu_of hr) (pe_disp (pps_cons pe_str (pe_tup (pa_cons pe_str (pa_cons pe_str pa_nil))) (pps_cons pe_str (pe_tup (pa_cons pe_str (pa_cons pe_str pa_nil))) (pps_cons pe_str (pe_tup (pa_cons pe_str (pa_cons pe_str pa_nil))) (pps_cons pe_str (pe_tup (pa_cons pe_str (pa_cons pe_str pa_nil))) pps_nil)))) (by rfl) (by rfl) (fun z => by cases z) (by decide)) (pv 0) (pe_tup (pa_cons pe_str (pa_cons pe_str pa_nil))) ⟨rfl, rfl, rfl, rfl⟩)))), ?_⟩
    walk_at "rd"
    refine ⟨by show 2 ≤ sizeLine; decide, fun p np => rd_inS (ws := ["negative", "denied"]) upd_same ?_⟩
    rw [if_neg Bool.false_ne_true, r7_den]
    have ap : Adv [] H (upd H p (.tup [.str "negative", .str "denied"])) := Adv.new np
    generalize (upd H p (.tup [.str "negative", .str "denied"])) = H1 at ap
    have al1 := alloc_adv al ap (by simp)
    walk_at "rd"
    refine iteB (fun e => ?_) (fun e => ?_)
    · have el : r.lo = "classical" ∧ r.hi = "intuit" := by cases r <;> first | exact ⟨rfl, rfl⟩ | exact absurd e (by decide)
      rw [el.1, el.2] at q
      walk_at "rd"
      refine ⟨by show 2 ≤ sizeLine; decide, fun p np => ?_⟩
      exact q _ _ (Is.tup upd_same (not_mem_new al1 np) (.cons .str (.cons .str .nil))) (ap.newT np)
    · walk_at "rd"
      intro p np
      have hp : (upd H1 p (.dK [])) p = some (.dK []) := upd_same
      have a2 : Adv [] H1 (upd H1 p (.dK [])) := Adv.new np
      generalize (upd H1 p (.dK [])) = H2 at hp a2
      refine ⟨by show 2 ≤ sizeLine; decide, fun t1 m1 => ⟨by show 2 ≤ sizeLine; decide, fun t2 m2 => ⟨by show 2 ≤ sizeLine; decide, fun t3 m3 => ⟨by show 2 ≤ sizeLine; decide, fun t4 m4 => ?_⟩⟩⟩⟩
      show _ ∧ ∃ kvs : List (Key × V), _ ∧ _ ∧ _
      have d1 := Adv.new (M := []) (o := .tup [.str "intuit", .str "s4"]) m1
      have d2 := Adv.new (M := []) (o := .tup [.str "intuit", .str "gl"]) m2
      have d3 := Adv.new (M := []) (o := .tup [.str "classical", .str "k"]) m3
      have d4 := Adv.new (M := []) (o := .tup [.str "classical", .str "s4"]) m4
      have h1 := ((d2.trans d3).trans d4).same _ _ (upd_same (H := H2) (a := t1) (o := .tup [.str "intuit", .str "s4"]))
      have h2 := (d3.trans d4).same _ _ (upd_same (a := t2) (o := .tup [.str "intuit", .str "gl"]))
      have h3 := d4.same _ _ (upd_same (a := t3) (o := .tup [.str "classical", .str "k"]))
      have h4 := (upd_same (H := upd (upd (upd H2 t1 (.tup [.str "intuit", .str "s4"])) t2 (.tup [.str "intuit", .str "gl"])) t3 (.tup [.str "classical", .str "k"])) (a := t4) (o := .tup [.str "classical", .str "s4"]))
      have d14 := ((d1.trans d2).trans d3).trans d4
      have hp6 := d14.same _ _ hp
      have f1 : H1 t1 = none := a2.free (by simp) m1
      have f2 : H1 t2 = none := (a2.trans d1).free (by simp) m2
      have f3 : H1 t3 = none := ((a2.trans d1).trans d2).free (by simp) m3
      have f4 : H1 t4 = none := (((a2.trans d1).trans d2).trans d3).free (by simp) m4
      have a6 := a2.trans d14
      generalize (upd (upd (upd (upd H2 t1 (.tup [.str "intuit", .str "s4"])) t2 (.tup [.str "intuit", .str "gl"])) t3 (.tup [.str "classical", .str "k"])) t4 (.tup [.str "classical", .str "s4"])) = H6 at h1 h2 h3 h4 d14 hp6 a6
      have dp : Adv [] H1 (upd H6 p (.dK (mergeK [] (lgK t1 t2 t3 t4)))) := a6.mut np
      have np_ : ∀ {t : Addr} {xs : List V}, H6 t = some (.tup xs) → t ≠ p := fun h z => by rw [z, hp6] at h; cases h
      refine ⟨hp6, lgK t1 t2 t3 t4, rfl, by show 4 ≤ 15; decide, p, rfl, .inl ⟨_, .inl upd_same⟩, _, rfl, by show 2 ≤ sizeLine; decide, fun t5 m5 => ⟨_, DGet.k (k := Sum.inr r.str) ((Adv.new (M := []) m5).same _ _ upd_same), ?_⟩⟩
      have a7 := dp.newT (o := .tup [.str "classical", .str "gl"]) m5
      have tk : ∀ {t : Addr} {x y : Str}, H6 t = some (.tup [.str x, .str y]) → H1 t = none → Is M (upd (upd H6 p (.dK (mergeK [] (lgK t1 t2 t3 t4)))) t5 (.tup [.str "classical", .str "gl"])) (.tuple [.str x, .str y]) (.ref t) := fun {t x y} h f =>
        Is.tup ((Adv.new (M := []) m5).same _ _ ((upd_ne (np_ h)).trans h)) (fun z => al1 _ z f) (.cons .str (.cons .str .nil))
      cases r with
      | neg => exact absurd e (by decide)
      | den => exact absurd e (by decide)
      | box => rw [lgK_b]; exact q _ _ (tk h1 f1) (ap.trans a7)
      | dou => rw [lgK_d]; exact q _ _ (tk h2 f2) (ap.trans a7)
      | mk => rw [lgK_k]; exact q _ _ (tk h3 f3) (ap.trans a7)
      | ms => rw [lgK_s]; exact q _ _ (tk h4 f4) (ap.trans a7)
      | mg => rw [lgK_g]; exact q _ _ (Is.tup upd_same (fun z => al1 _ z (dp.free (by simp) m5)) (.cons .str (.cons .str .nil))) (ap.trans a7)
/-! ### _law_some -/
structure SomeP (vs : List V) (H : Hp) (Q : VK) : Prop where
  ex : ∃ (M : List Addr) (s l : Addr) (rows : List Nat) (n : Int), vs = [.ref s, .ref l, .int n] ∧ StrAt M H s ∧ H l = some (.lst (nVl rows)) ∧ rows.length ≤ 1000000 ∧
    ∀ D rows' H', H D = none → H' D = some (.lst (nVl rows')) → (rows').Sublist rows → StrAt M H' s → Adv [s] H H' → Q (.ref D) H'
def spSome : Sp := fun vs H Q _ => SomeP vs H Q
theorem ok_law_some (A : All K mg w) : FnOk P w K mg base CX0 2 A.law_some.f A.law_some.fd ["stream", "rows", "share"] spSome := by
  refine A.law_some.F.ok sc_law_some (fun vs H Q E h => ?_) (fun cdv Ar outer s H vs Q E hr h => ?_)
  · obtain ⟨M, st, l, rows, n, rfl, _⟩ := h.ex
    rfl
  · obtain ⟨M, st, l, rows, n, rfl, hst, hl, hz, q⟩ := h.ex
    refine ⟨_, (pss_one (ps_ret (pe_lc (own := [("row", 3)]) (g := gName 3) rfl sc_law_some.nd (pi_list (pv 1)) (blkOk_by (own := [("row", 3)]) (N := ["stream", "rows", "share", "row"]) (sc := defScope s_law_some) (by decide +kernel)) (fun _ _ _ _ _ => pg_name (i := 3) sc_law_some.nd rfl (Or.inl rfl)) (fun _ _ _ _ _ => pts_one (pt_cmpR op_lt (pe_call (ok_law_next A) (hr.mono (by omega)) rfl A.law_next.m A.law_next.F.kp A.law_next.b .nil pass0 (pa_cons (pv 0) (pa_cons pe_int pa_nil))) (pv 2) (nomark _))) (fun _ _ _ _ _ => (pv 3))))), ?_⟩
    have sl : l ≠ st := fun z => by
      obtain ⟨li, ns, c, k, h1, _⟩ := hst
      rw [z, h1] at hl
      injection hl with hl
      injection hl with hl
      unfold nVl at hl
      cases rows with
      | nil => cases hl
      | cons r rows => rw [List.map_cons] at hl; injection hl with hl; cases hl
    walk_at "rd"
    refine ⟨_, rfl, l, rfl, ⟨_, SqL.of hl⟩, fun D nD => ?_⟩
    have Ds : st ≠ D := fun z => hst.here (by rw [z]; exact nD)
    refine lc_list (K := K) (a := l) (xs := nVl rows) (fun i H' => ∃ rows', H' D = some (.lst (nVl rows')) ∧ (rows').Sublist (rows.take i) ∧ StrAt (D :: M) H' st ∧ Adv [st] H H' ∧ H' l = some (.lst (nVl rows)))
      ⟨[], upd_same, by simp, (hst.fresh nD).same (Adv.new nD), Adv.nil (Adv.new nD), (Adv.new (M := []) nD).same _ _ hl⟩ (fun i H' _ p => ?_) (fun i x H' hx p => ?_) (fun H' p => ?_)
    · obtain ⟨r', _, _, _, _, h⟩ := p
      exact SqL.of h
    · obtain ⟨r', hD, hs, hst', a', hl'⟩ := p
      obtain ⟨k, hk, rfl⟩ := nVl_get hx
      have et : rows.take (i + 1) = rows.take i ++ [k] := by rw [List.take_succ, hk]; rfl
      have lD : l ≠ D := ne_of_none hl nD
      refine ⟨rfl, _, rfl, st, 8, D :: M, rfl, hst', by decide, by decide, fun t H2 t0 t1 hs2 a2 => ?_⟩
      refine ⟨_, rfl, t, n, rfl, rfl, _, rfl, ?_⟩
      have hD2 := a2 _ _ (notin1 Ds.symm) hD
      have hl2 := a2 _ _ (notin1 sl) hl'
      have len1 := hs.length_le
      rw [List.length_take] at len1
      refine iteB (fun e => ?_) (fun e => ?_)
      · refine ⟨_, rfl, _, hD2, by rw [nVl_len, sizeLine_eq]; omega, r' ++ [k], ?_, ?_, hs2.adv (N := [D]) (Adv.set (by simp)) (notin1 Ds) (by simp), (a'.trans a2).mut nD, by rw [upd_ne lD]; exact hl2⟩
        · rw [upd_same]
          unfold nVl
          rw [List.map_append]
          rfl
        · rw [et]
          exact hs.append (List.Sublist.refl _)
      · exact ⟨r', hD2, by rw [et]; exact hs.trans (List.sublist_append_left _ _), hs2, a'.trans a2, hl2⟩
    · obtain ⟨r', hD, hs, hst', a', hl'⟩ := p
      have e : rows.take (nVl rows).length = rows := by rw [nVl_len, List.take_length]
      rw [e] at hs
      exact q D r' H' nD hD hs (hst'.less (by simp +contextual)) a'
end
end K60

set_option Elab.async false
set_option linter.all false
set_option maxRecDepth 100000
set_option maxHeartbeats 400000
namespace K60
open PySem PySem.Spec PyProof.Rows L2 LL
open C8 (pss_cut)
local macro_rules | `(tactic| walk_at "ne") => `(tactic| first | assumption | (apply Ne.symm; assumption) | exact ne_of_none (by walk_at "hp") (by assumption) | exact (ne_of_none (by walk_at "hp") (by assumption)).symm)
local macro_rules | `(tactic| walk_at "nm") => `(tactic| first | assumption | exact notin0 | exact notin1 (by walk_at "ne") | exact notin2 (by walk_at "ne") (by walk_at "ne"))
local macro_rules | `(tactic| walk_at "hp") => `(tactic| first | assumption | exact upd_same | (refine Eq.trans (upd_ne ?ne) ?hh; (case hh => walk_at "hp"); (case ne => walk_at "ne")) | (refine Adv.get' (by assumption) ?hh ?nn; (case hh => walk_at "hp"); (case nn => walk_at "nm")))
local macro_rules | `(tactic| walk_at "tp") => `(tactic| first | assumption | exact Tp.adv (by walk_at "tp") (by assumption) | exact Tp.adv (by walk_at "tp") (Adv.nil (by assumption)))
local macro_rules | `(tactic| walk_at "sq") => `(tactic| first | assumption | exact Tp.sq (by assumption) (by walk_at "tp") | exact SqT.of (by walk_at "hp"))
local macro_rules | `(tactic| walk_at "at") => `(tactic| first | exact atI_nat (j := 0) rfl | exact atI_nat (j := 1) rfl | exact atI_nat (j := 2) rfl | exact atI_nat (j := 3) rfl | exact atI_nat (by assumption) | (rw [Int.zero_add]; exact atI_nat (by assumption)))
local macro_rules | `(tactic| walk_at "bb") => `(tactic| first | assumption | decide | exact rfl)
local macro_rules | `(tactic| walk_at "ci") => `(tactic| first | omega | (dsimp only; omega) | (unfold CDiv; omega) | (unfold CMul; omega))
local macro_rules | `(tactic| walk_at "rd1") => `(tactic| first
  | with_reducible refine rd_c ?_
  | ((with_reducible refine' rd_var ?rh ?_); (case rh => exact rfl))
  | with_reducible refine rd_op ?_
  | with_reducible refine rd_seq ?_
  | with_reducible refine rd_asg ?_
  | with_reducible refine rd_gname ?_
  | with_reducible refine rd_ifS ?_
  | with_reducible refine rd_test ?_
  | with_reducible refine rd_tB ?_
  | with_reducible refine rd_blP ?_
  | ((with_reducible refine' iteY ?rh ?_); (case rh => walk_at "bb"))
  | ((with_reducible refine' iteN ?rh ?_); (case rh => walk_at "bb"))
  | with_reducible refine rd_ret ?_
  | with_reducible refine rd_nx ?_
  | ((with_reducible refine' rd_eq ?rh ?_); (case rh => exact rfl))
  | ((with_reducible refine' rd_ne ?rh ?_); (case rh => exact rfl))
  | with_reducible refine rd_add ?_
  | with_reducible refine rd_sub ?_
  | with_reducible refine rd_i0 ?_
  | with_reducible refine rd_and ?_
  | with_reducible refine rd_or ?_
  | with_reducible refine rd_not ?_
  | with_reducible refine rd_andV ?_
  | with_reducible refine rd_orV ?_
  | with_reducible refine rd_notV ?_
  | with_reducible refine rd_ifE ?_
  | with_reducible refine rd_isN ?_
  | with_reducible refine rd_notN ?_
  | with_reducible refine rd_cons ?_
  | with_reducible refine rd_nil ?_
  | with_reducible refine rd_tup ?_
  | with_reducible refine rd_lst ?_
  | with_reducible refine rd_call ?_
  | with_reducible refine rd_cb ?_
  | with_reducible refine rd_meth ?_
  | with_reducible refine rd_callS ?_
  | with_reducible refine rd_make ?_
  | with_reducible refine rd_rfl ?_
  | with_reducible refine rd_fld ?_
  | with_reducible refine rd_drop ?_
  | with_reducible refine rd_gsub ?_
  | with_reducible refine rd_gcons ?_
  | with_reducible refine rd_gnil ?_
  | with_reducible refine rd_par ?_
  | with_reducible refine rd_two ?_
  | with_reducible refine rd_par3 ?_
  | with_reducible refine rd_three ?_
  | with_reducible refine rd_int1 ?_
  | ((with_reducible refine' rd_i ?rh ?_); (case rh => walk_at "ci"))
  | with_reducible refine rd_part ?_
  | with_reducible refine rd_nopart ?_
  | with_reducible refine rd_int ?_
  | with_reducible refine rd_sl ?_
  | with_reducible refine rd_bm ?_
  | with_reducible refine rd_bm0 ?_
  | with_reducible refine rd_dgetT ?_
  | with_reducible refine rd_din ?_
  | with_reducible refine rd_dnin ?_
  | with_reducible refine rd_un ?_
  | ((with_reducible refine' rd_ixL ?rh ?re ?_); (case rh => walk_at "hp"); (case re => walk_at "at"))
  | ((with_reducible refine' rd_ixT ?rh ?re ?_); (case rh => walk_at "sq"); (case re => walk_at "at"))
  | ((with_reducible refine' rd_lenT ?rh ?_); (case rh => walk_at "sq"))
  | ((with_reducible refine' rd_tyL ?rh ?_); (case rh => walk_at "hp"))
  | ((with_reducible refine' rd_len ?rh ?_); (case rh => walk_at "hp"))
  | with_reducible refine rd_u ?_
  | ((with_reducible refine' rd_slL ?rh ?_); (case rh => walk_at "hp"))
  | with_reducible refine rd_for ?_
  | with_reducible refine rd_rng1 ?_
  | with_reducible refine rd_rng2 ?_
  | with_reducible refine rd_ints1 ?_
  | with_reducible refine rd_ints2 ?_
  | with_reducible refine rd_retN ?_)
local macro_rules | `(tactic| walk_at "rd") => `(tactic| repeat walk_at "rd1")
section
variable [KW]
variable {P : Program} {w : World} {K : PySem.W.Frag} {mg : Str → Option Value} {base : Heap}
/-! ### _law_sides -/
structure SidP (vs : List V) (H : Hp) (Q : VK) : Prop where
  ex : ∃ (M : List Addr) (s : Addr) (n : Nat), vs = [.ref s, .int (n : Nat)] ∧ StrAt M H s ∧ s ∈ M ∧ (∀ b ∈ M, H b ≠ none) ∧ n ≤ 900000 ∧
    ∀ fo t1 t2 r1 r2 H', H fo = none → H' fo = some (.lst [.ref t1, .ref t2]) → Tp M H' t1 (nVl r1) → Tp M H' t2 (nVl r2) → SideR n r1 → SideR n r2 → StrAt M H' s → Adv [s] H H' → Q (.ref fo) H'
def spSid : Sp := fun vs H Q _ => SidP vs H Q
theorem side_list (n : Nat) : ((List.range n).filter (sideC n)).map (fun i => V.int (0 + (i : Nat))) = nVl (sideL n) := by
  unfold nVl sideL
  congr 1
  funext i
  rw [Int.zero_add]
theorem ok_law_sides (A : All K mg w) : FnOk P w K mg base CX0 3 A.law_sides.f A.law_sides.fd ["stream", "many"] spSid := by
  refine A.law_sides.F.ok sc_law_sides (fun vs H Q E h => ?_) (fun cdv Ar outer s H vs Q E hr h => ?_)
  · obtain ⟨M, st, n, rfl, _⟩ := h.ex
    rfl
  · obtain ⟨M, st, n, rfl, hst, ms, al, hn, q⟩ := h.ex
    refine ⟨_, (pss_cons (ps_set (i := 2) sc_law_sides.nd rfl (Or.inl rfl) (pe_lst pa_nil))
  (pss_cons (ps_for PassesOwn.never rfl (pi_range1 rfl A.T.range (pa_cons pe_int pa_nil)) (pg_name (i := 3) sc_law_sides.nd rfl (Or.inl rfl))
    (pss_cons (ps_setLc (i := 4) (own := [("at", 5)]) (g := gName 5) rfl sc_law_sides.nd rfl rfl (sw_true rfl rfl rfl (by decide +kernel)) (pi_range1 rfl A.T.range (pa_cons (pv 1) pa_nil)) (blkOk_by (own := [("at", 5)]) (N := ["stream", "many", "found", "turn", "rows", "at"]) (sc := defScope s_law_sides) (by decide +kernel)) (fun _ _ _ _ _ => pg_name (i := 5) sc_law_sides.nd rfl (Or.inl rfl)) (fun _ _ _ _ _ => pts_one (PW.pt (pw_or (pt_cmpR op_ge (pv 5) (pe_op op_sub (pv 1) pe_int) (nomark _)) (pw_or1 (pt_cmpR op_lt (pv 5) pe_int (nomark _)))))) (fun _ _ _ _ _ => (pv 5)))
  (pss_one (ps_expr (pe_bm PySem.F.plainAttrs_list PySem.F.slot_list_append PySem.F.type_list_append mt_append (pv 2) (pa_cons (pe_callTy call_tuple_of (by rfl) A.T.tuple (by decide +kernel) (pa_cons (pe_call (ok_law_some A) (hr.mono (by omega)) rfl A.law_some.m A.law_some.F.kp A.law_some.b .nil pass0 (pa_cons (pv 0) (pa_cons (pv 4) (pa_cons (pe_call (ok_law_pick A) (hr.mono (by omega)) rfl A.law_pick.m A.law_pick.F.kp A.law_pick.b .nil pass0 (pa_cons (pv 0) (pa_cons (pe_tup (pa_cons pe_int (pa_cons pe_int (pa_cons pe_int (pa_cons pe_int pa_nil))))) pa_nil))) pa_nil)))) pa_nil)) pa_nil))))))
  (pss_one (ps_ret (pv 2))))), ?_⟩
    walk_at "rd"
    refine ⟨Nat.zero_le _, fun fo nfo => ?_⟩
    have sf : st ≠ fo := fun z => hst.here (by rw [z]; exact nfo)
    have a0 : Adv [] H (upd H fo (.lst [])) := Adv.new nfo
    walk_at "rd"
    refine ⟨by decide, by decide, ?_⟩
    refine for_range (lo := 0) (n := 2) (fun i σ' H' => ∃ (y3 y4 y5 : Option V) (ts : List Addr), σ' = [some (.ref st), some (.int (n : Nat)), some (.ref fo), y3, y4, y5] ∧ H' fo = some (.lst (ts.map V.ref)) ∧ ts.length = i ∧ (∀ t ∈ ts, ∃ r, Tp M H' t (nVl r) ∧ SideR n r) ∧ StrAt (fo :: M) H' st ∧ Adv [st] H H')
      ⟨_, _, _, [], rfl, upd_same, rfl, by simp, (hst.fresh nfo).same a0, Adv.nil a0⟩ ?_ ?_
    · rintro i σ' H1 hi ⟨y3, y4, y5, ts, rfl, hfo, hts, hT, hs1, a1⟩
      walk_at "rd"
      have al1 : ∀ b ∈ M, H1 b ≠ none := alloc_adv al a1 (by simpa using hs1.here)
      refine ⟨_, rfl, (n : Nat), rfl, by omega, by omega, fun D nD => ?_⟩
      refine lc_filtR (n := ((n : Nat) : Int).toNat) (fun i => V.int (0 + (i : Nat))) (fun i => decide ((n : Int) - 12 ≤ 0 + (i : Nat)) || decide ((0 + (i : Nat) : Int) < 4)) nD (by omega) ?_ ?_
      · intro i H' acc T T0 hi aH hD k k0
        refine ⟨rfl, _, rfl, _, rfl, (n : Nat), 12, rfl, rfl, _, _, rfl, rfl, _, rfl, iteB (fun e => ?_) (fun e => ?_)⟩
        · exact iteY rfl ⟨_, rfl, k (by rw [e]; rfl) H' hD aH⟩
        · refine ⟨_, rfl, _, _, rfl, rfl, _, rfl, iteB (fun e2 => ?_) (fun e2 => ?_)⟩
          · exact ⟨_, rfl, k (by rw [e2, Bool.or_true]) H' hD aH⟩
          · exact k0 (by rw [e, e2]; rfl) H' hD aH
      · intro H2 a2 hD
        have eD : (((List.range ((n : Nat) : Int).toNat).filter fun i => decide ((n : Int) - 12 ≤ 0 + (i : Nat)) || decide ((0 + (i : Nat) : Int) < 4)).map fun i => V.int (0 + (i : Nat))) = nVl (sideL n) := by
          rw [← side_list, Int.toNat_natCast]
          congr 2
          funext i
          unfold sideC
          rw [Int.zero_add]
        rw [eD] at hD
        have hs2 := hs1.same a2
        have Ds : D ≠ st := fun z => hs1.here (by rw [← z]; exact nD)
        walk_at "rd"
        refine ⟨by show 4 ≤ sizeLine; decide, fun p np => ?_⟩
        have ps : p ≠ st := fun z => hs2.here (by rw [← z]; exact np)
        have ap := Adv.new (M := []) (o := .tup [.int 0, .int 1, .int 2, .int 5]) np
        refine ⟨st, p, [.int 0, .int 1, .int 2, .int 5], fo :: M, rfl, hs2.same ap, .inr upd_same, ps, by simp, by simp, fun x H3 hx hs3 a3 => ?_⟩
        obtain ⟨m, rfl⟩ : ∃ m : Int, x = .int m := by
          simp at hx
          rcases hx with h | h | h | h <;> exact ⟨_, h⟩
        have hD3 := a3 _ _ (notin1 Ds) (ap.same _ _ hD)
        walk_at "rd"
        have sl := sideL_len n
        refine ⟨⟨fo :: M, st, D, sideL n, m, rfl, hs3, hD3, by omega, fun D2 rows' H4 nD2 hD2 sub hs4 a4 => ?_⟩⟩
        walk_at "rd"
        refine ⟨D2, _, rfl, .inl ⟨SqL.of hD2, fun t nt => ?_⟩⟩
        have at_ := Adv.new (M := []) (o := .tup (nVl rows')) nt
        have a14 : Adv [st] H1 (upd H4 t (.tup (nVl rows'))) := (((Adv.nil (a2.trans ap)).trans a3).trans a4).trans (Adv.nil at_)
        have fs : fo ≠ st := sf.symm
        have hfo5 := a14 _ _ (notin1 fs) hfo
        walk_at "rd"
        refine rd_app hfo5 (by rw [List.length_map, hts, sizeLine_eq]; omega) ?_
        have a5 := Adv.set (M := [fo]) (H := upd H4 t (.tup (nVl rows'))) (p := fo) (o := .lst (ts.map V.ref ++ [.ref t])) (by simp)
        have tM : t ∉ M := fun z => by
          have al4 : H4 t ≠ none := alloc_adv (alloc_adv al1 (Adv.nil (a2.trans ap)) (fun b hb => by rw [List.mem_singleton.mp hb]; exact (hs2.same ap).here)) (a3.trans a4) (by simpa using hs4.here) t z
          exact al4 nt
        have tf : t ≠ fo := fun z => by
          have := (((Adv.nil (a2.trans ap)).trans a3).trans a4) _ _ (notin1 fs) hfo
          rw [← z, nt] at this
          cases this
        walk_at "rd"
        refine ⟨_, _, _, ts ++ [t], rfl, by rw [upd_same, List.map_append]; rfl, by rw [List.length_append, hts]; rfl, fun u hu => ?_, ((hs4.same at_).adv a5 (notin1 sf) (by simp)), (a1.trans a14).mut nfo⟩
        rcases List.mem_append.mp hu with hu | hu
        · obtain ⟨r, hr, x⟩ := hT u hu
          refine ⟨r, ?_, x⟩
          rcases hr with ⟨uM, h⟩ | h
          · have uf : u ≠ fo := fun z => by rw [z, hfo] at h; cases h
            have us : u ≠ st := fun z => uM (by rw [z]; exact ms)
            exact .inl ⟨uM, by rw [upd_ne uf]; exact a14 _ _ (notin1 us) h⟩
          · exact .inr h
        · rw [List.mem_singleton.mp hu]
          exact ⟨rows', .inl ⟨tM, by rw [upd_ne tf, upd_same]⟩, side_of sub⟩
    · rintro σ' H1 ⟨y3, y4, y5, ts, rfl, hfo, hts, hT, hs1, a1⟩
      obtain ⟨t1, t2, rfl⟩ : ∃ t1 t2, ts = [t1, t2] := by
        match ts, hts with
        | [a, b], _ => exact ⟨a, b, rfl⟩
      obtain ⟨r1, h1, x1⟩ := hT t1 (by simp)
      obtain ⟨r2, h2, x2⟩ := hT t2 (by simp)
      walk_at "rd"
      exact q fo t1 t2 r1 r2 H1 nfo hfo h1 h2 x1 x2 (hs1.less (by simp +contextual)) a1
end
end K60

set_option Elab.async false
set_option linter.all false
set_option maxRecDepth 100000
set_option maxHeartbeats 400000
namespace K60
open PySem PySem.Spec PyProof.Rows L2 LL
open C8 (pss_cut)
local macro_rules | `(tactic| walk_at "ne") => `(tactic| first | assumption | (apply Ne.symm; assumption) | exact ne_of_none (by walk_at "hp") (by assumption) | exact (ne_of_none (by walk_at "hp") (by assumption)).symm)
local macro_rules | `(tactic| walk_at "nm") => `(tactic| first | assumption | exact notin0 | exact notin1 (by walk_at "ne") | exact notin2 (by walk_at "ne") (by walk_at "ne"))
local macro_rules | `(tactic| walk_at "hp") => `(tactic| first | assumption | exact upd_same | (refine Eq.trans (upd_ne ?ne) ?hh; (case hh => walk_at "hp"); (case ne => walk_at "ne")) | (refine Adv.get' (by assumption) ?hh ?nn; (case hh => walk_at "hp"); (case nn => walk_at "nm")))
local macro_rules | `(tactic| walk_at "tp") => `(tactic| first | assumption | exact Tp.adv (by walk_at "tp") (by assumption) | exact Tp.adv (by walk_at "tp") (Adv.nil (by assumption)))
local macro_rules | `(tactic| walk_at "sq") => `(tactic| first | assumption | exact Tp.sq (by assumption) (by walk_at "tp") | exact SqT.of (by walk_at "hp"))
local macro_rules | `(tactic| walk_at "at") => `(tactic| first | exact atI_nat (j := 0) rfl | exact atI_nat (j := 1) rfl | exact atI_nat (j := 2) rfl | exact atI_nat (j := 3) rfl | exact atI_nat (by assumption) | (rw [Int.zero_add]; exact atI_nat (by assumption)))
local macro_rules | `(tactic| walk_at "bb") => `(tactic| first | assumption | decide | exact rfl)
local macro_rules | `(tactic| walk_at "ci") => `(tactic| first | omega | (dsimp only; omega) | (unfold CDiv; omega) | (unfold CMul; omega))
local macro_rules | `(tactic| walk_at "rd1") => `(tactic| first
  | with_reducible refine rd_c ?_
  | ((with_reducible refine' rd_var ?rh ?_); (case rh => exact rfl))
  | with_reducible refine rd_op ?_
  | with_reducible refine rd_seq ?_
  | with_reducible refine rd_asg ?_
  | with_reducible refine rd_gname ?_
  | with_reducible refine rd_ifS ?_
  | with_reducible refine rd_test ?_
  | with_reducible refine rd_tB ?_
  | with_reducible refine rd_blP ?_
  | ((with_reducible refine' iteY ?rh ?_); (case rh => walk_at "bb"))
  | ((with_reducible refine' iteN ?rh ?_); (case rh => walk_at "bb"))
  | with_reducible refine rd_ret ?_
  | with_reducible refine rd_nx ?_
  | ((with_reducible refine' rd_eq ?rh ?_); (case rh => exact rfl))
  | ((with_reducible refine' rd_ne ?rh ?_); (case rh => exact rfl))
  | with_reducible refine rd_add ?_
  | with_reducible refine rd_sub ?_
  | with_reducible refine rd_i0 ?_
  | with_reducible refine rd_and ?_
  | with_reducible refine rd_or ?_
  | with_reducible refine rd_not ?_
  | with_reducible refine rd_andV ?_
  | with_reducible refine rd_orV ?_
  | with_reducible refine rd_notV ?_
  | with_reducible refine rd_ifE ?_
  | with_reducible refine rd_isN ?_
  | with_reducible refine rd_notN ?_
  | with_reducible refine rd_cons ?_
  | with_reducible refine rd_nil ?_
  | with_reducible refine rd_tup ?_
  | with_reducible refine rd_lst ?_
  | with_reducible refine rd_call ?_
  | with_reducible refine rd_cb ?_
  | with_reducible refine rd_meth ?_
  | with_reducible refine rd_callS ?_
  | with_reducible refine rd_make ?_
  | with_reducible refine rd_rfl ?_
  | with_reducible refine rd_fld ?_
  | with_reducible refine rd_drop ?_
  | with_reducible refine rd_gsub ?_
  | with_reducible refine rd_gcons ?_
  | with_reducible refine rd_gnil ?_
  | with_reducible refine rd_par ?_
  | with_reducible refine rd_two ?_
  | with_reducible refine rd_par3 ?_
  | with_reducible refine rd_three ?_
  | with_reducible refine rd_int1 ?_
  | ((with_reducible refine' rd_i ?rh ?_); (case rh => walk_at "ci"))
  | with_reducible refine rd_part ?_
  | with_reducible refine rd_nopart ?_
  | with_reducible refine rd_int ?_
  | with_reducible refine rd_sl ?_
  | with_reducible refine rd_bm ?_
  | with_reducible refine rd_bm0 ?_
  | with_reducible refine rd_dgetT ?_
  | with_reducible refine rd_din ?_
  | with_reducible refine rd_dnin ?_
  | with_reducible refine rd_un ?_
  | ((with_reducible refine' rd_ixL ?rh ?re ?_); (case rh => walk_at "hp"); (case re => walk_at "at"))
  | ((with_reducible refine' rd_ixT ?rh ?re ?_); (case rh => walk_at "sq"); (case re => walk_at "at"))
  | ((with_reducible refine' rd_lenT ?rh ?_); (case rh => walk_at "sq"))
  | ((with_reducible refine' rd_tyL ?rh ?_); (case rh => walk_at "hp"))
  | ((with_reducible refine' rd_len ?rh ?_); (case rh => walk_at "hp"))
  | with_reducible refine rd_u ?_
  | ((with_reducible refine' rd_slL ?rh ?_); (case rh => walk_at "hp"))
  | with_reducible refine rd_for ?_
  | with_reducible refine rd_rng1 ?_
  | with_reducible refine rd_rng2 ?_
  | with_reducible refine rd_ints1 ?_
  | with_reducible refine rd_ints2 ?_
  | with_reducible refine rd_retN ?_)
local macro_rules | `(tactic| walk_at "rd") => `(tactic| repeat walk_at "rd1")
section
variable [KW]
variable {P : Program} {w : World} {K : PySem.W.Frag} {mg : Str → Option Value} {base : Heap}
/-- a claim that was drawn -/
structure ClV (M : List Addr) (H : Hp) (cl : Addr) : Prop where
  ex : ∃ (sh em lt rt : Addr) (rs : List V) (le ri : List Nat), cl ∉ M ∧ H cl = some (.tup [.ref sh, .ref em, .ref lt, .ref rt]) ∧ sh ∉ M ∧ H sh = some (.lst rs) ∧ RwDs M H rs ∧ rs.length ≤ 90000 ∧ Tp M H em [] ∧ Tp M H lt (nVl le) ∧ Tp M H rt (nVl ri) ∧ le.length ≤ 100 ∧ ri.length ≤ 100
/-- the state of _law_twins -/
structure TwS (M : List Addr) (s bk b0 b1 L R : Addr) (c : Nat) (H0 : Hp) (ns : List Nd) (Ls Rs : List Nat) (H : Hp) : Prop where
  D : Dw (R :: L :: M) H s bk b0 b1 false ns
  nL : L ∉ [s, b0, b1]
  nR : R ∉ [s, b0, b1]
  LR : L ≠ R
  hL : H L = some (.lst (nV Ls))
  hR : H R = some (.lst (nV Rs))
  zL : Ls.length ≤ 4
  zR : Rs.length ≤ 4
  bL : ∀ r ∈ Ls, r < ns.length
  bR : ∀ r ∈ Rs, r < ns.length
  len : ns.length ≤ c
  a : Adv [s, b0, b1] H0 H
section
variable {M : List Addr} {s bk b0 b1 L R : Addr} {c : Nat} {H0 H H' : Hp} {ns : List Nd} {Ls Rs : List Nat}
theorem n3_s {x : Addr} (h : x ∉ [s, b0, b1]) : x ∉ [s] := fun z => h (by rw [List.mem_singleton.mp z]; simp)
theorem n3_b {x : Addr} (h : x ∉ [s, b0, b1]) : x ∉ [b0, b1] := fun z => h (List.mem_cons_of_mem _ z)
theorem TwS.draw (x : TwS M s bk b0 b1 L R c H0 ns Ls Rs H) (a : Adv [s] H H') (hs : StrAt (R :: L :: M) H' s) : TwS M s bk b0 b1 L R c H0 ns Ls Rs H' :=
  ⟨x.D.next a hs, x.nL, x.nR, x.LR, a _ _ (n3_s x.nL) x.hL, a _ _ (n3_s x.nR) x.hR, x.zL, x.zR, x.bL, x.bR, x.len, x.a.trans (a.more (by simp))⟩
theorem TwS.same (x : TwS M s bk b0 b1 L R c H0 ns Ls Rs H) (a : Adv [] H H') : TwS M s bk b0 b1 L R c H0 ns Ls Rs H' :=
  ⟨x.D.same a, x.nL, x.nR, x.LR, a.same _ _ x.hL, a.same _ _ x.hR, x.zL, x.zR, x.bL, x.bR, x.len, x.a.trans (Adv.nil a)⟩
theorem TwS.row {n : Nd} (x : TwS M s bk b0 b1 L R c H0 ns Ls Rs H) (hn : n.ok false ns.length = true) (a : Adv [b0, b1] H H') (B : BkN (R :: L :: M) H' b0 b1 (rowF ns n).2) : TwS M s bk b0 b1 L R (c + 1) H0 (rowF ns n).2 Ls Rs H' := by
  have hp := (rowF_pre ns n).length_le
  have h1 := rowF_len ns n
  have hl := x.len
  exact ⟨x.D.row hn a B, x.nL, x.nR, x.LR, a _ _ (n3_b x.nL) x.hL, a _ _ (n3_b x.nR) x.hR, x.zL, x.zR, fun r hr => Nat.lt_of_lt_of_le (x.bL r hr) hp, fun r hr => Nat.lt_of_lt_of_le (x.bR r hr) hp, by omega, x.a.trans (a.more (by simp +contextual))⟩
theorem TwS.deny {r : Nat} (x : TwS M s bk b0 b1 L R c H0 ns Ls Rs H) (hr : r < ns.length) (a : Adv [b0, b1] H H') (B : BkN (R :: L :: M) H' b0 b1 (denyF ns r).2) : TwS M s bk b0 b1 L R (c + 2) H0 (denyF ns r).2 Ls Rs H' ∧ (denyF ns r).1 < (denyF ns r).2.length := by
  have hp := (denyF_pre ns r).length_le
  have h1 := denyF_len ns r
  have hl := x.len
  obtain ⟨o, l⟩ := denyF_ok x.D.ok hr
  have D := x.D
  exact ⟨⟨⟨D.str.adv a (notin2 D.s0 D.s1) (fun b hb => by
    rcases List.mem_cons.mp hb with h | h
    · rw [h]; exact D.B.m0
    · rw [List.mem_singleton.mp h]; exact D.B.m1), a _ _ D.kb D.hbk, D.ms, D.kM, D.s0, D.s1, B, o⟩, x.nL, x.nR, x.LR, a _ _ (n3_b x.nL) x.hL, a _ _ (n3_b x.nR) x.hR, x.zL, x.zR, fun r hr => Nat.lt_of_lt_of_le (x.bL r hr) hp, fun r hr => Nat.lt_of_lt_of_le (x.bR r hr) hp, by omega, x.a.trans (a.more (by simp +contextual))⟩, l⟩
theorem TwS.pushL {r : Nat} (x : TwS M s bk b0 b1 L R c H0 ns Ls Rs H) (hr : r < ns.length) (hl : Ls.length ≤ 3) (n0 : H0 L = none) : TwS M s bk b0 b1 L R c H0 ns (Ls ++ [r]) Rs (upd H L (.lst (nV Ls ++ [.int (r : Nat)]))) := by
  have nl := x.nL
  simp only [List.mem_cons, List.not_mem_nil, or_false, not_or] at nl
  refine ⟨x.D.put (by simp) nl.1 nl.2.1 nl.2.2, x.nL, x.nR, x.LR, by rw [upd_same]; unfold nV; rw [List.map_append]; rfl, by rw [upd_ne x.LR.symm]; exact x.hR, by rw [List.length_append]; simp; omega, x.zR, fun q hq => ?_, x.bR, x.len, x.a.mut n0⟩
  rcases List.mem_append.mp hq with hq | hq
  · exact x.bL q hq
  · rw [List.mem_singleton.mp hq]; exact hr
theorem TwS.pushR {r : Nat} (x : TwS M s bk b0 b1 L R c H0 ns Ls Rs H) (hr : r < ns.length) (hl : Rs.length ≤ 3) (n0 : H0 R = none) : TwS M s bk b0 b1 L R c H0 ns Ls (Rs ++ [r]) (upd H R (.lst (nV Rs ++ [.int (r : Nat)]))) := by
  have nl := x.nR
  simp only [List.mem_cons, List.not_mem_nil, or_false, not_or] at nl
  refine ⟨x.D.put (by simp) nl.1 nl.2.1 nl.2.2, x.nL, x.nR, x.LR, by rw [upd_ne x.LR]; exact x.hL, by rw [upd_same]; unfold nV; rw [List.map_append]; rfl, x.zL, by rw [List.length_append]; simp; omega, x.bL, fun q hq => ?_, x.len, x.a.mut n0⟩
  rcases List.mem_append.mp hq with hq | hq
  · exact x.bR q hq
  · rw [List.mem_singleton.mp hq]; exact hr
end
theorem TwS.mono {M : List Addr} {s bk b0 b1 L R : Addr} {c c' : Nat} {H0 H : Hp} {ns : List Nd} {Ls Rs : List Nat} (x : TwS M s bk b0 b1 L R c H0 ns Ls Rs H) (h : c ≤ c') : TwS M s bk b0 b1 L R c' H0 ns Ls Rs H :=
  ⟨x.D, x.nL, x.nR, x.LR, x.hL, x.hR, x.zL, x.zR, x.bL, x.bR, Nat.le_trans x.len h, x.a⟩
theorem TwS.tp {M : List Addr} {s bk b0 b1 L R p : Addr} {c : Nat} {H0 H : Hp} {ns : List Nd} {Ls Rs : List Nat} {n : Nd} (x : TwS M s bk b0 b1 L R c H0 ns Ls Rs H) (np : H p = none) : Tp (R :: L :: M) (upd H p (.tup (n.keys.map kV))) p (n.keys.map kV) :=
  .inl ⟨(x.D.free np).1, upd_same⟩
/-- tuple(sorted(set(x))) -/
def SrtG (K : PySem.W.Frag) (w : World) (Q : VK) (x : V) (H : Hp) : Prop :=
  rSetL K w [x] H fun y H1 => rSortS w [y] H1 fun z H2 => ∃ p ys, [z] = [V.ref p] ∧ ((SqL K H2 p ys ∧ ∀ l, H2 l = none → Q (.ref l) (upd H2 l (.tup ys))) ∨ (SqT K H2 p ys ∧ Q (.ref p) H2))
theorem rd_srt {te : TE} {σ : L2.St} {H : Hp} {Q : VK} (q : te σ H fun x H1 => SrtG K w Q x H1) :
    tCB (fun xs H Q => ∃ p ys, xs = [V.ref p] ∧ ((SqL K H p ys ∧ ∀ l, H l = none → Q (.ref l) (upd H l (.tup ys))) ∨ (SqT K H p ys ∧ Q (.ref p) H))) (tCons (tCB (rSortS w) (tCons (tCB (rSetL K w) (tCons te tNil)) tNil)) tNil) σ H Q := q
theorem srt_go {H : Hp} {Q : VK} {c : Addr} (rows : List Nat) (hc : SqL K H c (nV rows) ∨ SqT K H c (nV rows)) (hz : rows.length ≤ 4000) (q : ∀ u H', H u = none → H' u = some (.tup (nVl (srtN rows))) → Adv [] H H' → Q (.ref u) H') :
    SrtG K w Q (.ref c) H := by
  have eV : nV rows = (rows.map fun r => ((r : Nat) : Int)).map V.int := by unfold nV; rw [List.map_map]; rfl
  rw [eV] at hc
  refine ⟨c, _, rfl, hc, by rw [List.length_map]; exact hz, fun p1 n1 _ np1 => ?_⟩
  refine ⟨p1, _, n1, rfl, upd_same, fun z1 p2 hz1 hm1 _ np2 => ?_⟩
  have ez1 : z1 = srtU (rows.map fun r => ((r : Nat) : Int)) := srtU_of hz1 hm1
  subst ez1
  rw [nV_srt]
  refine ⟨p2, _, rfl, .inl ⟨SqL.of upd_same, fun u nu => ?_⟩⟩
  have a2 := ((Adv.new (M := []) (o := SetO w p1 (fun j => decide (j ∈ rows.map fun r => ((r : Nat) : Int))) n1) np1).newT (o := .lst (nVl (srtN rows))) np2)
  exact q u _ (a2.free (by simp) nu) upd_same (a2.newT nu)
local macro_rules | `(tactic| walk_at "rd1") => `(tactic| with_reducible refine rd_srt ?_)
/-! ### _law_twins -/
structure TwP (vs : List V) (H : Hp) (Q : VK) : Prop where
  ex : ∃ (M N : List Addr) (s bk b0 b1 : Addr) (ns : List Nd), vs = [.ref s, .ref bk] ∧ Dw M H s bk b0 b1 false ns ∧ ns.length ≤ 1000 ∧ (∀ b ∈ N, b ∈ M) ∧ s ∈ N ∧ b0 ∉ N ∧ b1 ∉ N ∧
    ∀ cl H', ClV N H' cl → StrAt N H' s → Adv [s, b0, b1] H H' → Q (.ref cl) H'
def spTwins : Sp := fun vs H Q _ => TwP vs H Q
theorem ok_law_twins (A : All K mg w) : FnOk P w K mg base CX0 6 A.law_twins.f A.law_twins.fd ["stream", "book"] spTwins := by
  refine A.law_twins.F.ok sc_law_twins (fun vs H Q E h => ?_) (fun cdv Ar outer s H vs Q E hr h => ?_)
  · obtain ⟨M, N, st, bk, b0, b1, ns, rfl, _⟩ := h.ex
    rfl
  · obtain ⟨M, N, st, bk, b0, b1, ns, rfl, D, hl, hN, sN, b0N, b1N, q⟩ := h.ex
    refine ⟨_, (pss_cons (ps_par (i := 2) (j := 3) (by rfl) sc_law_twins.nd rfl rfl (by decide) rfl rfl (pa_cons (pe_lst pa_nil) (pa_cons (pe_lst pa_nil) pa_nil)) (by rfl))
  (pss_cut (ps_if (PW.pt (pw_and (pt_cmpR op_gt (pe_callB call_len_seq (by rfl) A.T.len PySem.boot_len (pa_cons (pe_ix ix_list (pv 1) pe_int (fun _ _ => rfl)) pa_nil)) pe_int (nomark _)) (pw_and1 (pt_cmpR op_eq (pe_call (ok_law_next A) (hr.mono (by omega)) rfl A.law_next.m A.law_next.F.kp A.law_next.b .nil pass0 (pa_cons (pv 0) (pa_cons pe_int pa_nil))) pe_int (nomark _)))))
    (pss_cons (ps_par (i := 4) (j := 5) (by rfl) sc_law_twins.nd rfl rfl (by decide) rfl rfl (pa_cons (pe_call (ok_law_next A) (hr.mono (by omega)) rfl A.law_next.m A.law_next.F.kp A.law_next.b .nil pass0 (pa_cons (pv 0) (pa_cons (pe_callB call_len_seq (by rfl) A.T.len PySem.boot_len (pa_cons (pe_ix ix_list (pv 1) pe_int (fun _ _ => rfl)) pa_nil)) pa_nil))) (pa_cons (pe_call (ok_law_next A) (hr.mono (by omega)) rfl A.law_next.m A.law_next.F.kp A.law_next.b .nil pass0 (pa_cons (pv 0) (pa_cons (pe_callB call_len_seq (by rfl) A.T.len PySem.boot_len (pa_cons (pe_ix ix_list (pv 1) pe_int (fun _ _ => rfl)) pa_nil)) pa_nil))) pa_nil)) (by rfl))
  (pss_cons (ps_expr (pe_bm PySem.F.plainAttrs_list PySem.F.slot_list_append PySem.F.type_list_append mt_append (pv 2) (pa_cons (pe_call (ok_law_row A) (hr.mono (by omega)) rfl A.law_row.m A.law_row.F.kp A.law_row.b .nil pass0 (pa_cons (pv 1) (pa_cons (pe_tup (pa_cons pe_str (pa_cons (pv 4) (pa_cons (pv 5) pa_nil)))) pa_nil))) pa_nil)))
  (pss_cons (ps_set (i := 6) sc_law_twins.nd rfl (Or.inl rfl) (pe_call (ok_law_not A) (hr.mono (by omega)) rfl A.law_not.m A.law_not.F.kp A.law_not.b .nil pass0 (pa_cons (pv 1) (pa_cons (pv 4) pa_nil))))
  (pss_one (ps_expr (pe_bm PySem.F.plainAttrs_list PySem.F.slot_list_append PySem.F.type_list_append mt_append (pv 2) (pa_cons (pe_call (ok_law_not A) (hr.mono (by omega)) rfl A.law_not.m A.law_not.F.kp A.law_not.b .nil pass0 (pa_cons (pv 1) (pa_cons (pe_call (ok_law_row A) (hr.mono (by omega)) rfl A.law_row.m A.law_row.F.kp A.law_row.b .nil pass0 (pa_cons (pv 1) (pa_cons (pe_tup (pa_cons pe_str (pa_cons (pv 6) (pa_cons (pe_call (ok_law_not A) (hr.mono (by omega)) rfl A.law_not.m A.law_not.F.kp A.law_not.b .nil pass0 (pa_cons (pv 1) (pa_cons (pv 5) pa_nil))) pa_nil)))) pa_nil))) pa_nil))) pa_nil)))))))
    pss_nil)
  (pss_cut (ps_if (PW.pt (pw_and (pt_cmpR op_gt (pe_callB call_len_seq (by rfl) A.T.len PySem.boot_len (pa_cons (pe_ix ix_list (pv 1) pe_int (fun _ _ => rfl)) pa_nil)) pe_int (nomark _)) (pw_and1 (pt_cmpR op_eq (pe_call (ok_law_next A) (hr.mono (by omega)) rfl A.law_next.m A.law_next.F.kp A.law_next.b .nil pass0 (pa_cons (pv 0) (pa_cons pe_int pa_nil))) pe_int (nomark _)))))
    (pss_cons (ps_expr (pe_bm PySem.F.plainAttrs_list PySem.F.slot_list_append PySem.F.type_list_append mt_append (pv 3) (pa_cons (pe_call (ok_law_next A) (hr.mono (by omega)) rfl A.law_next.m A.law_next.F.kp A.law_next.b .nil pass0 (pa_cons (pv 0) (pa_cons (pe_callB call_len_seq (by rfl) A.T.len PySem.boot_len (pa_cons (pe_ix ix_list (pv 1) pe_int (fun _ _ => rfl)) pa_nil)) pa_nil))) pa_nil)))
  (pss_one (ps_expr (pe_bm PySem.F.plainAttrs_list PySem.F.slot_list_append PySem.F.type_list_append mt_append (pv 2) (pa_cons (pe_call (ok_law_not A) (hr.mono (by omega)) rfl A.law_not.m A.law_not.F.kp A.law_not.b .nil pass0 (pa_cons (pv 1) (pa_cons (pe_ix ix_list (pv 3) pe_int (fun _ _ => rfl)) pa_nil))) pa_nil)))))
    pss_nil)
  (pss_cut (ps_if (pt_cmpR op_eq (pe_call (ok_law_next A) (hr.mono (by omega)) rfl A.law_next.m A.law_next.F.kp A.law_next.b .nil pass0 (pa_cons (pv 0) (pa_cons pe_int pa_nil))) pe_int (nomark _))
    (pss_one (ps_par (i := 2) (j := 3) (by rfl) sc_law_twins.nd rfl rfl (by decide) rfl rfl (pa_cons (pv 3) (pa_cons (pv 2) pa_nil)) (by rfl)))
    pss_nil)
  (pss_cons (ps_set (i := 7) sc_law_twins.nd rfl (Or.inl rfl) (pe_call (ok_law_sides A) (hr.mono (by omega)) rfl A.law_sides.m A.law_sides.F.kp A.law_sides.b .nil pass0 (pa_cons (pv 0) (pa_cons (pe_callB call_len_seq (by rfl) A.T.len PySem.boot_len (pa_cons (pe_ix ix_list (pv 1) pe_int (fun _ _ => rfl)) pa_nil)) pa_nil))))
  (pss_cons (ps_set (i := 8) sc_law_twins.nd rfl (Or.inl rfl) (pe_tup (pa_cons (pe_ix ix_list (pv 1) pe_int (fun _ _ => rfl)) (pa_cons (pe_tup pa_nil) (pa_cons (pe_callTy call_tuple_of (by rfl) A.T.tuple (by decide +kernel) (pa_cons (pe_callB (cr_sortS rfl) (by rfl) A.T.sorted (by decide +kernel) (pa_cons (pe_callTy (cr_setL rfl) (by rfl) A.T.set (by decide +kernel) (pa_cons (pe_op op_cat (pe_callTy call_list_of (by rfl) A.T.list (by decide +kernel) (pa_cons (pe_ix ix_list (pv 7) pe_int (fun _ _ => rfl)) pa_nil)) (pv 2)) pa_nil)) pa_nil)) pa_nil)) (pa_cons (pe_callTy call_tuple_of (by rfl) A.T.tuple (by decide +kernel) (pa_cons (pe_callB (cr_sortS rfl) (by rfl) A.T.sorted (by decide +kernel) (pa_cons (pe_callTy (cr_setL rfl) (by rfl) A.T.set (by decide +kernel) (pa_cons (pe_op op_cat (pe_callTy call_list_of (by rfl) A.T.list (by decide +kernel) (pa_cons (pe_ix ix_list (pv 7) pe_int (fun _ _ => rfl)) pa_nil)) (pv 3)) pa_nil)) pa_nil)) pa_nil)) pa_nil))))))
  (pss_cut (ps_if (pt_cmpR op_eq (pe_call (ok_law_next A) (hr.mono (by omega)) rfl A.law_next.m A.law_next.F.kp A.law_next.b .nil pass0 (pa_cons (pv 0) (pa_cons pe_int pa_nil))) pe_int (nomark _))
    (pss_cons (ps_set (i := 9) sc_law_twins.nd rfl (Or.inl rfl) (pe_call (ok_law_read_claim A) (hr.mono (by omega)) rfl A.law_read_claim.m A.law_read_claim.F.kp A.law_read_claim.b .nil pass0 (pa_cons (pe_call (ok_law_pick A) (hr.mono (by omega)) rfl A.law_pick.m A.law_pick.F.kp A.law_pick.b .nil pass0 (pa_cons (pv 0) (pa_cons (pe_tup (pa_cons pe_str (pa_cons pe_str pa_nil))) pa_nil))) (pa_cons (pv 8) pa_nil))))
  (pss_cons (ps_set (i := 10) sc_law_twins.nd rfl (Or.inl rfl) (pe_call (ok_law_sides A) (hr.mono (by omega)) rfl A.law_sides.m A.law_sides.F.kp A.law_sides.b .nil pass0 (pa_cons (pv 0) (pa_cons (pe_callB call_len_seq (by rfl) A.T.len PySem.boot_len (pa_cons (pe_ix ix_tup (pv 9) pe_int (fun _ _ => rfl)) pa_nil)) pa_nil))))
  (pss_one (ps_set (i := 8) sc_law_twins.nd rfl (Or.inl rfl) (pe_tup (pa_cons (pe_ix ix_tup (pv 9) pe_int (fun _ _ => rfl)) (pa_cons (pe_tup pa_nil) (pa_cons (pe_callTy call_tuple_of (by rfl) A.T.tuple (by decide +kernel) (pa_cons (pe_callB (cr_sortS rfl) (by rfl) A.T.sorted (by decide +kernel) (pa_cons (pe_callTy (cr_setL rfl) (by rfl) A.T.set (by decide +kernel) (pa_cons (pe_op op_catA (pe_ix ix_tup (pv 9) pe_int (fun _ _ => rfl)) (pe_ix ix_list (pv 10) pe_int (fun _ _ => rfl))) pa_nil)) pa_nil)) pa_nil)) (pa_cons (pe_ix ix_list (pv 10) pe_int (fun _ _ => rfl)) pa_nil)))))))))
    pss_nil)
  (pss_one (ps_ret (pv 8)))))))))), ?_⟩
    walk_at "rd"
    refine ⟨Nat.zero_le _, fun L nL => ?_⟩
    have fL := D.free nL
    have D1 := D.fresh (o := .lst []) nL
    walk_at "rd"
    refine ⟨Nat.zero_le _, fun R nR => ?_⟩
    have fR := D1.free nR
    have D2 := D1.fresh (o := .lst []) nR
    have a2 : Adv [] H (upd (upd H L (.lst [])) R (.lst [])) := (Adv.new nL).newT nR
    have LR : L ≠ R := ne_of_none (upd_same (H := H)) nR
    have nR0 : H R = none := by rw [upd_ne LR.symm] at nR; exact nR
    have T0 : TwS M st bk b0 b1 L R 1000 H ns [] [] (upd (upd H L (.lst [])) R (.lst [])) :=
      ⟨D2, by simp [fL.2.1, fL.2.2.2.1, fL.2.2.2.2], by simp [fR.2.1, fR.2.2.2.1, fR.2.2.2.2], LR, by rw [upd_ne LR, upd_same]; rfl, upd_same, by simp, by simp, by simp, by simp, hl, Adv.nil a2⟩
    generalize (upd (upd H L (.lst [])) R (.lst [])) = H1 at T0
    walk_at "rd"
    refine ⟨fun σ' H' => ∃ (y4 y5 y6 : Option V) (ns1 : List Nd) (Ls : List Nat), σ' = [some (.ref st), some (.ref bk), some (.ref L), some (.ref R), y4, y5, y6, none, none, none, none] ∧ TwS M st bk b0 b1 L R 1010 H ns1 Ls [] H' ∧ Ls.length ≤ 2, ?_, ?_⟩
    · obtain ⟨rs, r0, rd⟩ := T0.D.B.rows
      have hbk := T0.D.hbk
      have hrl := rd.len
      rw [List.length_map] at hrl
      walk_at "rd"
      refine iteB (fun e => ?_) (fun e => ⟨_, _, _, ns, [], rfl, T0.mono (by decide), by simp⟩)
      have pos : 0 < ns.length := by have := of_decide_eq_true e; omega
      walk_at "rd"
      refine ⟨st, 2, _, rfl, T0.D.str, by decide, by decide, fun t H2 t0 t1 hs2 a2 => ?_⟩
      have T2 := T0.draw a2 hs2
      walk_at "rd"
      refine iteB (fun e2 => ?_) (fun e2 => ⟨_, _, _, ns, [], rfl, T2.mono (by decide), by simp⟩)
      have r02 := a2 _ _ (notin1 T2.D.s0.symm) r0
      have hbk2 := T2.D.hbk
      walk_at "rd"
      refine ⟨st, rs.length, _, rfl, T2.D.str, by omega, by omega, fun j H3 j0 j1 hs3 a3 => ?_⟩
      have T3 := T2.draw a3 hs3
      have r03 := a3 _ _ (notin1 T2.D.s0.symm) r02
      have hbk3 := T3.D.hbk
      walk_at "rd"
      refine ⟨st, rs.length, _, rfl, T3.D.str, by omega, by omega, fun k H4 k0 k1 hs4 a4 => ?_⟩
      have T4 := T3.draw a4 hs4
      have hL4 := T4.hL
      obtain ⟨j, rfl⟩ : ∃ n : Nat, j = (n : Nat) := ⟨j.toNat, by omega⟩
      obtain ⟨k, rfl⟩ : ∃ n : Nat, k = (n : Nat) := ⟨k.toNat, by omega⟩
      have hj : j < ns.length := by omega
      have hk : k < ns.length := by omega
      walk_at "rd"
      refine ⟨by show 3 ≤ sizeLine; decide, fun p np => ?_⟩
      have T5 := T4.same (Adv.new (o := .tup ((Nd.bin .or j k).keys.map kV)) np)
      refine ⟨⟨_, bk, b0, b1, p, ns, .bin .or j k, rfl, T5.D.hbk, T5.D.kM, T5.D.B, T4.tp (n := .bin .or j k) np, by omega, fun H6 B6 a6 => ?_⟩⟩
      have T6 := T5.row (n := .bin .or j k) (by simp [Nd.ok]; omega) a6 B6
      have l6 := rowF_lt ns (.bin .or j k)
      have p6 := (rowF_pre ns (.bin .or j k)).length_le
      generalize rowF ns (.bin .or j k) = q6 at T6 l6 p6
      obtain ⟨i6, ns6⟩ := q6
      dsimp only at T6 l6 p6
      walk_at "rd"
      refine rd_app T6.hL (by simp [nV, sizeLine_eq]) ?_
      have T7 := T6.pushL l6 (by simp) nL
      walk_at "rd"
      refine ⟨_, bk, b0, b1, ns6, j, rfl, T7.D.hbk, T7.D.kM, T7.D.B, by have := T7.len; omega, fun H8 B8 a8 => ?_⟩
      obtain ⟨T8, l8⟩ := T7.deny (r := j) (by omega) a8 B8
      have p8 := (denyF_pre ns6 j).length_le
      generalize denyF ns6 j = q8 at T8 l8 p8
      obtain ⟨i8, ns8⟩ := q8
      dsimp only at T8 l8 p8
      have hL8 := T8.hL
      walk_at "rd"
      refine ⟨_, bk, b0, b1, ns8, k, rfl, T8.D.hbk, T8.D.kM, T8.D.B, by have := T8.len; omega, fun H9 B9 a9 => ?_⟩
      obtain ⟨T9, l9⟩ := T8.deny (r := k) (by omega) a9 B9
      have p9 := (denyF_pre ns8 k).length_le
      generalize denyF ns8 k = q9 at T9 l9 p9
      obtain ⟨i9, ns9⟩ := q9
      dsimp only at T9 l9 p9
      walk_at "rd"
      refine ⟨by show 3 ≤ sizeLine; decide, fun p2 np2 => ?_⟩
      have T10 := T9.same (Adv.new (o := .tup ((Nd.bin .and i8 i9).keys.map kV)) np2)
      refine ⟨⟨_, bk, b0, b1, p2, ns9, .bin .and i8 i9, rfl, T10.D.hbk, T10.D.kM, T10.D.B, T9.tp (n := .bin .and i8 i9) np2, by have := T9.len; omega, fun H11 B11 a11 => ?_⟩⟩
      have T11 := T10.row (n := .bin .and i8 i9) (by simp [Nd.ok]; omega) a11 B11
      have l11 := rowF_lt ns9 (.bin .and i8 i9)
      generalize rowF ns9 (.bin .and i8 i9) = q11 at T11 l11
      obtain ⟨i11, ns11⟩ := q11
      dsimp only at T11 l11
      walk_at "rd"
      refine ⟨_, bk, b0, b1, ns11, i11, rfl, T11.D.hbk, T11.D.kM, T11.D.B, by have := T11.len; omega, fun H12 B12 a12 => ?_⟩
      obtain ⟨T12, l12⟩ := T11.deny l11 a12 B12
      walk_at "rd"
      refine rd_app T12.hL (by simp [nV, sizeLine_eq]) ?_
      have T13 := T12.pushL l12 (by simp) nL
      walk_at "rd"
      exact ⟨_, _, _, _, _, rfl, T13.mono (by decide), by simp⟩
    · rintro σ' H2 ⟨y4, y5, y6, ns1, Ls, rfl, T1, z1⟩
      walk_at "rd"
      refine ⟨fun σ' H' => ∃ (ns1 : List Nd) (Ls Rs : List Nat), σ' = [some (.ref st), some (.ref bk), some (.ref L), some (.ref R), y4, y5, y6, none, none, none, none] ∧ TwS M st bk b0 b1 L R 1020 H ns1 Ls Rs H', ?_, ?_⟩
      · obtain ⟨rs, r0, rd⟩ := T1.D.B.rows
        have hbk := T1.D.hbk
        have hrl := rd.len
        rw [List.length_map] at hrl
        walk_at "rd"
        refine iteB (fun e => ?_) (fun e => ⟨ns1, Ls, [], rfl, T1.mono (by decide)⟩)
        have pos : 0 < ns1.length := by have := of_decide_eq_true e; omega
        have l1 := T1.len
        walk_at "rd"
        refine ⟨st, 3, _, rfl, T1.D.str, by decide, by decide, fun t H3 t0 t1 hs3 a3 => ?_⟩
        have T3 := T1.draw a3 hs3
        walk_at "rd"
        refine iteB (fun e2 => ?_) (fun e2 => ⟨ns1, Ls, [], rfl, T3.mono (by decide)⟩)
        have r03 := a3 _ _ (notin1 T3.D.s0.symm) r0
        have hbk3 := T3.D.hbk
        have hR3 := T3.hR
        walk_at "rd"
        refine ⟨st, rs.length, _, rfl, T3.D.str, by omega, by omega, fun j H4 j0 j1 hs4 a4 => ?_⟩
        have T4 := T3.draw a4 hs4
        obtain ⟨j, rfl⟩ : ∃ n : Nat, j = (n : Nat) := ⟨j.toNat, by omega⟩
        walk_at "rd"
        refine rd_app T4.hR (by simp [nV, sizeLine_eq]) ?_
        have T5 := T4.pushR (r := j) (by omega) (by simp) nR0
        have hL5 := T5.hL
        have hR5 := T5.hR
        have aR : atI (nV ([] ++ [j])) 0 = some (.int (j : Nat)) := atI_nat (j := 0) rfl
        walk_at "rd"
        refine ⟨_, bk, b0, b1, ns1, j, rfl, T5.D.hbk, T5.D.kM, T5.D.B, by omega, fun H6 B6 a6 => ?_⟩
        obtain ⟨T6, l6⟩ := T5.deny (r := j) (by omega) a6 B6
        walk_at "rd"
        refine rd_app T6.hL (by unfold nV; rw [List.length_map, sizeLine_eq]; omega) ?_
        have T7 := T6.pushL l6 (by omega) nL
        walk_at "rd"
        exact ⟨_, _, _, rfl, T7.mono (by decide)⟩
      · rintro σ' H3 ⟨ns2, Ls, Rs, rfl, T2⟩
        walk_at "rd"
        refine ⟨fun σ' H' => ∃ (A B : Addr) (As Bs : List Nat), σ' = [some (.ref st), some (.ref bk), some (.ref A), some (.ref B), y4, y5, y6, none, none, none, none] ∧ TwS M st bk b0 b1 L R 1020 H ns2 Ls Rs H' ∧ ((A = L ∧ As = Ls) ∨ (A = R ∧ As = Rs)) ∧ ((B = L ∧ Bs = Ls) ∨ (B = R ∧ Bs = Rs)), ?_, ?_⟩
        · walk_at "rd"
          refine ⟨st, 4, _, rfl, T2.D.str, by decide, by decide, fun t H4 t0 t1 hs4 a4 => ?_⟩
          have T4 := T2.draw a4 hs4
          walk_at "rd"
          refine iteB (fun e2 => ?_) (fun e2 => ⟨L, R, Ls, Rs, rfl, T4, .inl ⟨rfl, rfl⟩, .inr ⟨rfl, rfl⟩⟩)
          walk_at "rd"
          exact ⟨R, L, Rs, Ls, rfl, T4, .inr ⟨rfl, rfl⟩, .inl ⟨rfl, rfl⟩⟩
        · rintro σ' H4 ⟨A_, B_, As, Bs, rfl, T3, hA, hB⟩
          obtain ⟨rs, r0, rd⟩ := T3.D.B.rows
          have hbk := T3.D.hbk
          have hrl := rd.len
          rw [List.length_map] at hrl
          have l3 := T3.len
          walk_at "rd"
          refine ⟨⟨_, st, rs.length, rfl, T3.D.str, T3.D.ms, T3.D.B.al, by omega, fun fo t1 t2 r1 r2 H5 nfo hfo h1 h2 x1 x2 hs5 a5 => ?_⟩⟩
          have T5 := T3.draw a5 hs5
          have hbk5 := T5.D.hbk
          rw [hrl] at x1 x2
          walk_at "rd"
          refine ⟨Nat.zero_le _, fun em nem => ?_⟩
          have e6 : Adv [] H5 (upd H5 em (.tup [])) := Adv.new nem
          have T6 := T5.same e6
          have hfo6 := e6.same _ _ hfo
          have s1 := (h1.adv (Adv.nil e6)).sq A.W
          have hA_ : ∀ {H' : Hp} {c : Nat}, TwS M st bk b0 b1 L R c H ns2 Ls Rs H' → H' A_ = some (.lst (nV As)) ∧ As.length ≤ 4 ∧ (∀ r ∈ As, r < ns2.length) := fun T => by
            rcases hA with ⟨rfl, rfl⟩ | ⟨rfl, rfl⟩
            · exact ⟨T.hL, T.zL, T.bL⟩
            · exact ⟨T.hR, T.zR, T.bR⟩
          have hB_ : ∀ {H' : Hp} {c : Nat}, TwS M st bk b0 b1 L R c H ns2 Ls Rs H' → H' B_ = some (.lst (nV Bs)) ∧ Bs.length ≤ 4 ∧ (∀ r ∈ Bs, r < ns2.length) := fun T => by
            rcases hB with ⟨rfl, rfl⟩ | ⟨rfl, rfl⟩
            · exact ⟨T.hL, T.zL, T.bL⟩
            · exact ⟨T.hR, T.zR, T.bR⟩
          have x1l := x1.len
          have x2l := x2.len
          have catV : ∀ a b : List Nat, nVl a ++ nV b = nV (a ++ b) := fun a b => by
            unfold nVl nV
            rw [List.map_append]
          walk_at "rd"
          intro l1 nl1
          have e7 := e6.newT (o := .lst (nVl r1)) nl1
          have T7 := T5.same e7
          obtain ⟨hA7, zA, bA⟩ := hA_ T7
          walk_at "rd"
          refine rd_cat (xs := nVl r1) (zs := nV As) upd_same hA7 (by rw [nVl_len]; unfold nV; rw [List.length_map, sizeLine_eq]; omega) (fun c1 nc1 => ?_)
          have e8 := e7.newT (o := .lst (nVl r1 ++ nV As)) nc1
          walk_at "rd"
          refine srt_go (r1 ++ As) (.inl (SqL.of (by rw [upd_same, catV]))) (by rw [List.length_append]; omega) (fun u1 H8 nu1 hu1 f8 => ?_)
          have e10 := e8.trans f8
          have hem := (((Adv.new (M := []) nl1).newT nc1).trans f8).same _ _ (upd_same (H := H5) (a := em) (o := .tup []))
          have fu1 : H5 u1 = none := e8.free (by simp) nu1
          have T8 := T5.same e10
          have hfo8 := e10.same _ _ hfo
          have s2 := (h2.adv (Adv.nil e10)).sq A.W
          walk_at "rd"
          intro l2 nl2
          have g1 := Adv.new (M := []) (o := .lst (nVl r2)) nl2
          have T9 := T8.same g1
          obtain ⟨hB9, zB, bB⟩ := hB_ T9
          walk_at "rd"
          refine rd_cat (xs := nVl r2) (zs := nV Bs) upd_same hB9 (by rw [nVl_len]; unfold nV; rw [List.length_map, sizeLine_eq]; omega) (fun c2 nc2 => ?_)
          have g2 := g1.newT (o := .lst (nVl r2 ++ nV Bs)) nc2
          walk_at "rd"
          refine srt_go (r2 ++ Bs) (.inl (SqL.of (by rw [upd_same, catV]))) (by rw [List.length_append]; omega) (fun u2 H9 nu2 hu2 f9 => ?_)
          have g4 := g2.trans f9
          have fu2 : H8 u2 = none := g2.free (by simp) nu2
          have hu1' := g4.same _ _ hu1
          have hem' := g4.same _ _ hem
          have T10 := T8.same g4
          have e5_9 := e10.trans g4
          walk_at "rd"
          refine ⟨by show 4 ≤ sizeLine; decide, fun cl ncl => ?_⟩
          have g5 := Adv.new (M := []) (o := .tup [.ref b0, .ref em, .ref u1, .ref u2]) ncl
          have T11 := T10.same g5
          have hcl := upd_same (H := H9) (a := cl) (o := .tup [.ref b0, .ref em, .ref u1, .ref u2])
          have hu1'' := g5.same _ _ hu1'
          have hu2'' := g5.same _ _ hu2
          have hem'' := g5.same _ _ hem'
          have fcl : H5 cl = none := e5_9.free (by simp) ncl
          have aT := e5_9.trans g5
          generalize (upd H9 cl (.tup [.ref b0, .ref em, .ref u1, .ref u2])) = H10 at T11 hcl hu1'' hu2'' hem'' aT
          walk_at "rd"
          have sub : ∀ b ∈ N, b ∈ R :: L :: M := fun b hb => List.mem_cons_of_mem _ (List.mem_cons_of_mem _ (hN b hb))
          have al5 := T5.D.B.al
          obtain ⟨rs11, r011, rd11⟩ := T11.D.B.rows
          have hrl11 := rd11.len
          rw [List.length_map] at hrl11
          have fem : H5 em = none := nem
          have clM : cl ∉ R :: L :: M := fun z => al5 _ z fcl
          have emM : em ∉ R :: L :: M := fun z => al5 _ z fem
          have u1M : u1 ∉ R :: L :: M := fun z => al5 _ z fu1
          have u2M : u2 ∉ R :: L :: M := fun z => al5 _ z (e10.free (by simp) fu2)
          have lA := srtN_len (r1 ++ As)
          have lB := srtN_len (r2 ++ Bs)
          rw [List.length_append] at lA lB
          have okC : RtC ns2 (srtN (r1 ++ As)) (srtN (r2 ++ Bs)) := by
            refine ⟨T11.D.ok, by omega, fun i hi => ?_, fun i hi => ?_, by rw [srtN_cast]; exact srtU_asc _, by rw [srtN_cast]; exact srtU_asc _⟩
            · rcases List.mem_append.mp (srtN_mem.mp hi) with h | h
              · exact x1.lt i h
              · exact bA i h
            · rcases List.mem_append.mp (srtN_mem.mp hi) with h | h
              · exact x2.lt i h
              · exact bB i h
          refine ⟨fun σ' H' => ∃ (cl : Addr) (y9 y10 : Option V), σ' = [some (.ref st), some (.ref bk), some (.ref A_), some (.ref B_), y4, y5, y6, some (.ref fo), some (.ref cl), y9, y10] ∧ ClV N H' cl ∧ StrAt N H' st ∧ Adv [st, b0, b1] H H', ?_, ?_⟩
          · walk_at "rd"
            refine ⟨st, 3, _, rfl, T11.D.str, by decide, by decide, fun t H12 t0 t1 hs12 a12 => ?_⟩
            have T12 := T11.draw a12 hs12
            have ns_ : ∀ {x : Addr}, x ∉ R :: L :: M → x ∉ [st] := fun h => notin1 fun z => h (by rw [z]; exact T11.D.ms)
            have b0s : b0 ∉ [st] := notin1 T11.D.s0.symm
            have sM : ∀ b ∈ [st], b ∈ R :: L :: M := by simpa using T11.D.ms
            walk_at "rd"
            refine iteB (fun e => ?_) (fun e => ?_)
            · walk_at "rd"
              refine ⟨by show 2 ≤ sizeLine; decide, fun p np => ?_⟩
              have T13 := T12.same (Adv.new (o := .tup [.str "negative", .str "denied"]) np)
              have a13 := Adv.new (M := []) (o := .tup [.str "negative", .str "denied"]) np
              refine ⟨st, p, [.str "negative", .str "denied"], _, rfl, T13.D.str, .inr upd_same, fun z => T12.D.str.here (by rw [← z]; exact np), by simp, by simp, fun x H14 hx hs14 a14 => ?_⟩
              have T14 := T13.draw a14 hs14
              obtain ⟨r7, rfl, hd7⟩ : ∃ r7 : R7, x = .str r7.str ∧ r7.denies = true := by
                simp at hx
                rcases hx with h | h
                · exact ⟨.neg, h, rfl⟩
                · exact ⟨.den, h, rfl⟩
              have c14 : Adv [st] H10 H14 := (a12.trans (Adv.nil a13)).trans a14
              have hcl14 := c14 _ _ (ns_ clM) hcl
              have r014 := c14 _ _ b0s r011
              have rd14 := rd11.adv (c14.more sM)
              walk_at "rd"
              refine ⟨⟨R :: L :: M, cl, b0, u1, u2, .ref em, rs11, ns2, srtN (r1 ++ As), srtN (r2 ++ Bs), r7, rfl, T14.D.B.al, .inl ⟨clM, hcl14⟩, r014, rd14, .inl ⟨u1M, c14 _ _ (ns_ u1M) hu1''⟩, .inl ⟨u2M, c14 _ _ (ns_ u2M) hu2''⟩, okC, by omega, fun tt H15 o a15 => ?_⟩⟩
              have T15 := T14.same a15
              obtain ⟨o1, o2, o3⟩ := readC_ok (r := r7) (bx := false) (.inl hd7) okC.ok okC.bl okC.br
              obtain ⟨l1_, l2_, l3_⟩ := readC_len r7 ns2 (srtN (r1 ++ As)) (srtN (r2 ++ Bs))
              generalize readC r7 ns2 (srtN (r1 ++ As)) (srtN (r2 ++ Bs)) = rc at o o1 o2 o3 l1_ l2_ l3_
              obtain ⟨ns3, le3, ri3⟩ := rc
              dsimp only at o o1 o2 o3 l1_ l2_ l3_
              obtain ⟨L3, e3, l23, r23, rs3, y1, y2, y3, y4_, y5_, y6_, y7, y8⟩ := o.ex
              have hrl3 := y3.len
              rw [List.length_map] at hrl3
              have y1s := SqT.of (K := K) y1
              have L3M : L3 ∉ R :: L :: M := fun z => T14.D.B.al _ z y7
              walk_at "rd"
              refine ⟨⟨_, st, rs3.length, rfl, T15.D.str, T15.D.ms, T15.D.B.al, by omega, fun fo2 t3 t4 r3 r4 H16 nfo2 hfo2 h3 h4 x3 x4 hs16 a16 => ?_⟩⟩
              have T16 := T15.draw a16 hs16
              have ttM : tt ∉ R :: L :: M := fun z => T14.D.B.al _ z y8
              have y1_16 := a16 _ _ (ns_ ttM) y1
              have y1s16 := SqT.of (K := K) y1_16
              have y2_16 := a16 _ _ (ns_ L3M) y2
              have y3_16 := (y3.less (N := R :: L :: M) (by simp +contextual)).adv (a16.more sM)
              have y5_16 := y5_.adv (a16.more sM)
              walk_at "rd"
              refine ⟨Nat.zero_le _, fun em2 nem2 => ?_⟩
              have g1_ := Adv.new (M := []) (o := .tup []) nem2
              have T17 := T16.same g1_
              have y1s17 := SqT.adv g1_ y1s16
              have hfo17 := g1_.same _ _ hfo2
              have x3l := x3.len
              have x4l := x4.len
              have fin : ∀ u H', (upd H16 em2 (.tup [])) u = none → H' u = some (.tup (nVl (srtN (le3 ++ r3)))) → Adv [] (upd H16 em2 (.tup [])) H' → ∀ cl2, H' cl2 = none → ∃ (c : Addr) (y9 y10 : Option V), [some (.ref st), some (.ref bk), some (.ref A_), some (.ref B_), y4, y5, y6, some (.ref fo), some (.ref cl2), some (.ref tt), some (.ref fo2)] = [some (.ref st), some (.ref bk), some (.ref A_), some (.ref B_), y4, y5, y6, some (.ref fo), some (.ref c), y9, y10] ∧ ClV N (upd H' cl2 (.tup [.ref L3, .ref em2, .ref u, .ref t4])) c ∧ StrAt N (upd H' cl2 (.tup [.ref L3, .ref em2, .ref u, .ref t4])) st ∧ Adv [st, b0, b1] H (upd H' cl2 (.tup [.ref L3, .ref em2, .ref u, .ref t4])) := fun u H' nu hu au cl2 ncl2 => by
                have gc := Adv.new (M := []) (o := .tup [.ref L3, .ref em2, .ref u, .ref t4]) ncl2
                have gg := (g1_.trans au).trans gc
                have T18 := T16.same gg
                have alf := T16.D.B.al
                have lu := srtN_len (le3 ++ r3)
                rw [List.length_append] at lu
                refine ⟨cl2, _, _, rfl, ⟨L3, em2, u, t4, rs3, srtN (le3 ++ r3), r4, fun z => alf _ (sub _ z) ((g1_.trans au).free (by simp) ncl2), upd_same, fun z => L3M (sub _ z), gg.same _ _ y2_16, (RwDs.nds (y3_16.less sub)).adv (Adv.nil gg), by omega, .inl ⟨fun z => alf _ (sub _ z) nem2, (au.trans gc).same _ _ upd_same⟩, .inl ⟨fun z => alf _ (sub _ z) (g1_.free (by simp) nu), gc.same _ _ hu⟩, (h4.less sub).adv (Adv.nil gg), by omega, by omega⟩, T18.D.str.less sub, T18.a⟩
              walk_at "rd"
              have sqa := (y5_16.adv (Adv.nil g1_)).sq A.W
              have sqb := (h3.adv (Adv.nil g1_)).sq A.W
              have cV : nVl le3 ++ nVl r3 = nV (le3 ++ r3) := by unfold nVl nV; rw [List.map_append]
              refine ⟨l23, t3, nVl le3, nVl r3, rfl, rfl, sqa, sqb, by rw [nVl_len, nVl_len, sizeLine_eq]; omega, fun e1 => ?_, fun _ e2 => ?_, fun _ _ p2 np2 => ?_⟩
              · rw [e1, List.nil_append] at cV
                refine srt_go (le3 ++ r3) (.inr (by rw [← cV]; exact sqb)) (by rw [List.length_append]; omega) (fun u H' nu hu au => ?_)
                have hfo' := au.same _ _ (hfo17)
                walk_at "rd"
                refine ⟨by show 4 ≤ sizeLine; decide, fun cl2 ncl2 => ?_⟩
                walk_at "rd"
                exact fin u H' (nu) hu (au) cl2 ncl2
              · rw [e2, List.append_nil] at cV
                refine srt_go (le3 ++ r3) (.inr (by rw [← cV]; exact sqa)) (by rw [List.length_append]; omega) (fun u H' nu hu au => ?_)
                have hfo' := au.same _ _ (hfo17)
                walk_at "rd"
                refine ⟨by show 4 ≤ sizeLine; decide, fun cl2 ncl2 => ?_⟩
                walk_at "rd"
                exact fin u H' (nu) hu (au) cl2 ncl2
              · have gp := Adv.new (M := []) (o := .tup (nVl le3 ++ nVl r3)) np2
                refine srt_go (le3 ++ r3) (.inr (by rw [← cV]; exact SqT.of upd_same)) (by rw [List.length_append]; omega) (fun u H' nu hu au => ?_)
                have hfo' := au.same _ _ (gp.same _ _ hfo17)
                walk_at "rd"
                refine ⟨by show 4 ≤ sizeLine; decide, fun cl2 ncl2 => ?_⟩
                walk_at "rd"
                exact fin u H' (gp.free (by simp) nu) hu (gp.trans au) cl2 ncl2
            · walk_at "rd"
              refine ⟨cl, _, _, rfl, ⟨b0, em, u1, u2, rs11, srtN (r1 ++ As), srtN (r2 ++ Bs), fun z => clM (sub _ z), a12 _ _ (ns_ clM) hcl, b0N, a12 _ _ b0s r011, RwDs.nds ((rd11.adv (a12.more sM)).less sub), by omega, .inl ⟨fun z => emM (sub _ z), a12 _ _ (ns_ emM) hem''⟩, .inl ⟨fun z => u1M (sub _ z), a12 _ _ (ns_ u1M) hu1''⟩, .inl ⟨fun z => u2M (sub _ z), a12 _ _ (ns_ u2M) hu2''⟩, by omega, by omega⟩, T12.D.str.less sub, T12.a⟩
          · rintro σ' H12 ⟨cl, y9, y10, rfl, hC, hS, hA12⟩
            walk_at "rd"
            exact q cl H12 hC hS hA12
end
end K60

set_option Elab.async false
set_option linter.all false
set_option maxRecDepth 100000
set_option maxHeartbeats 400000
namespace K60
open PySem PySem.Spec PyProof.Rows L2 LL
open C8 (pss_cut)
local macro_rules | `(tactic| walk_at "ne") => `(tactic| first | assumption | (apply Ne.symm; assumption) | exact ne_of_none (by walk_at "hp") (by assumption) | exact (ne_of_none (by walk_at "hp") (by assumption)).symm)
local macro_rules | `(tactic| walk_at "nm") => `(tactic| first | assumption | exact notin0 | exact notin1 (by walk_at "ne") | exact notin2 (by walk_at "ne") (by walk_at "ne"))
local macro_rules | `(tactic| walk_at "hp") => `(tactic| first | assumption | exact upd_same | (refine Eq.trans (upd_ne ?ne) ?hh; (case hh => walk_at "hp"); (case ne => walk_at "ne")) | (refine Adv.get' (by assumption) ?hh ?nn; (case hh => walk_at "hp"); (case nn => walk_at "nm")))
local macro_rules | `(tactic| walk_at "tp") => `(tactic| first | assumption | exact Tp.adv (by walk_at "tp") (by assumption) | exact Tp.adv (by walk_at "tp") (Adv.nil (by assumption)))
local macro_rules | `(tactic| walk_at "sq") => `(tactic| first | assumption | exact Tp.sq (by assumption) (by walk_at "tp") | exact SqT.of (by walk_at "hp"))
local macro_rules | `(tactic| walk_at "at") => `(tactic| first | exact atI_nat (j := 0) rfl | exact atI_nat (j := 1) rfl | exact atI_nat (j := 2) rfl | exact atI_nat (j := 3) rfl | exact atI_nat (by assumption) | (rw [Int.zero_add]; exact atI_nat (by assumption)))
local macro_rules | `(tactic| walk_at "bb") => `(tactic| first | assumption | decide | exact rfl)
local macro_rules | `(tactic| walk_at "ci") => `(tactic| first | omega | (dsimp only; omega) | (unfold CDiv; omega) | (unfold CMul; omega))
local macro_rules | `(tactic| walk_at "rd1") => `(tactic| first
  | with_reducible refine rd_c ?_
  | ((with_reducible refine' rd_var ?rh ?_); (case rh => exact rfl))
  | with_reducible refine rd_op ?_
  | with_reducible refine rd_seq ?_
  | with_reducible refine rd_asg ?_
  | with_reducible refine rd_gname ?_
  | with_reducible refine rd_ifS ?_
  | with_reducible refine rd_test ?_
  | with_reducible refine rd_tB ?_
  | with_reducible refine rd_blP ?_
  | ((with_reducible refine' iteY ?rh ?_); (case rh => walk_at "bb"))
  | ((with_reducible refine' iteN ?rh ?_); (case rh => walk_at "bb"))
  | with_reducible refine rd_ret ?_
  | with_reducible refine rd_nx ?_
  | ((with_reducible refine' rd_eq ?rh ?_); (case rh => exact rfl))
  | ((with_reducible refine' rd_ne ?rh ?_); (case rh => exact rfl))
  | with_reducible refine rd_add ?_
  | with_reducible refine rd_sub ?_
  | with_reducible refine rd_i0 ?_
  | with_reducible refine rd_and ?_
  | with_reducible refine rd_or ?_
  | with_reducible refine rd_not ?_
  | with_reducible refine rd_andV ?_
  | with_reducible refine rd_orV ?_
  | with_reducible refine rd_notV ?_
  | with_reducible refine rd_ifE ?_
  | with_reducible refine rd_isN ?_
  | with_reducible refine rd_notN ?_
  | with_reducible refine rd_cons ?_
  | with_reducible refine rd_nil ?_
  | with_reducible refine rd_tup ?_
  | with_reducible refine rd_lst ?_
  | with_reducible refine rd_call ?_
  | with_reducible refine rd_cb ?_
  | with_reducible refine rd_meth ?_
  | with_reducible refine rd_callS ?_
  | with_reducible refine rd_make ?_
  | with_reducible refine rd_rfl ?_
  | with_reducible refine rd_fld ?_
  | with_reducible refine rd_drop ?_
  | with_reducible refine rd_gsub ?_
  | with_reducible refine rd_gcons ?_
  | with_reducible refine rd_gnil ?_
  | with_reducible refine rd_par ?_
  | with_reducible refine rd_two ?_
  | with_reducible refine rd_par3 ?_
  | with_reducible refine rd_three ?_
  | with_reducible refine rd_int1 ?_
  | ((with_reducible refine' rd_i ?rh ?_); (case rh => walk_at "ci"))
  | with_reducible refine rd_part ?_
  | with_reducible refine rd_nopart ?_
  | with_reducible refine rd_int ?_
  | with_reducible refine rd_sl ?_
  | with_reducible refine rd_bm ?_
  | with_reducible refine rd_bm0 ?_
  | with_reducible refine rd_dgetT ?_
  | with_reducible refine rd_din ?_
  | with_reducible refine rd_dnin ?_
  | with_reducible refine rd_un ?_
  | ((with_reducible refine' rd_ixL ?rh ?re ?_); (case rh => walk_at "hp"); (case re => walk_at "at"))
  | ((with_reducible refine' rd_ixT ?rh ?re ?_); (case rh => walk_at "sq"); (case re => walk_at "at"))
  | ((with_reducible refine' rd_lenT ?rh ?_); (case rh => walk_at "sq"))
  | ((with_reducible refine' rd_tyL ?rh ?_); (case rh => walk_at "hp"))
  | ((with_reducible refine' rd_len ?rh ?_); (case rh => walk_at "hp"))
  | with_reducible refine rd_u ?_
  | ((with_reducible refine' rd_slL ?rh ?_); (case rh => walk_at "hp"))
  | with_reducible refine rd_for ?_
  | with_reducible refine rd_rng1 ?_
  | with_reducible refine rd_rng2 ?_
  | with_reducible refine rd_ints1 ?_
  | with_reducible refine rd_ints2 ?_
  | with_reducible refine rd_retN ?_)
local macro_rules | `(tactic| walk_at "rd") => `(tactic| repeat walk_at "rd1")
section
variable [KW]
variable {P : Program} {w : World} {K : PySem.W.Frag} {mg : Str → Option Value} {base : Heap}
/-! ### _law_claim -/
structure ClaP (vs : List V) (H : Hp) (Q : VK) : Prop where
  ex : ∃ (M : List Addr) (s : Addr), vs = [.ref s] ∧ StrAt M H s ∧ s ∈ M ∧ (∀ b ∈ M, H b ≠ none) ∧ ∀ cl H', ClV M H' cl → StrAt M H' s → Adv [s] H H' → Q (.ref cl) H'
def spClaim : Sp := fun vs H Q _ => ClaP vs H Q
theorem ok_law_claim (A : All K mg w) : FnOk P w K mg base CX0 13 A.law_claim.f A.law_claim.fd ["stream"] spClaim := by
  refine A.law_claim.F.ok sc_law_claim (fun vs H Q E h => ?_) (fun cdv Ar outer s0 H vs Q E hr h => ?_)
  · obtain ⟨M, s, rfl, _⟩ := h.ex
    rfl
  · obtain ⟨M, s, rfl, hs, ms, al, q⟩ := h.ex
    refine ⟨_, (pss_cons (ps_set (i := 1) sc_law_claim.nd rfl (Or.inl rfl) (pe_call (ok_law_next A) (hr.mono (by omega)) rfl A.law_next.m A.law_next.F.kp A.law_next.b .nil pass0 (pa_cons (pv 0) (pa_cons pe_int pa_nil))))
  (pss_cut (ps_if (pt_cmpR op_eq (pv 1) pe_int (nomark _))
    (pss_one (ps_set (i := 2) sc_law_claim.nd rfl (Or.inl rfl) (pe_call (ok_law_long A) (hr.mono (by omega)) rfl A.law_long.m A.law_long.F.kp A.law_long.b .nil pass0 (pa_cons (pv 0) (pa_cons (pe_call (ok_law_pick A) (hr.mono (by omega)) rfl A.law_pick.m A.law_pick.F.kp A.law_pick.b .nil pass0 (pa_cons (pv 0) (pa_cons (pe_tup (pa_cons pe_int (pa_cons pe_int (pa_cons (pe_call (ok_law_from A) (hr.mono (by omega)) rfl A.law_from.m A.law_from.F.kp A.law_from.b .nil pass0 (pa_cons (pv 0) (pa_cons pe_int (pa_cons pe_int pa_nil)))) pa_nil)))) pa_nil))) (pa_cons (pe_tup (pa_cons pe_str (pa_cons pe_str (pa_cons pe_str pa_nil)))) pa_nil))))))
    (pss_one (ps_if (pt_cmpR op_lt (pv 1) pe_int (nomark _))
    (pss_one (ps_set (i := 2) sc_law_claim.nd rfl (Or.inl rfl) (pe_call (ok_law_long A) (hr.mono (by omega)) rfl A.law_long.m A.law_long.F.kp A.law_long.b .nil pass0 (pa_cons (pv 0) (pa_cons (pe_call (ok_law_from A) (hr.mono (by omega)) rfl A.law_from.m A.law_from.F.kp A.law_from.b .nil pass0 (pa_cons (pv 0) (pa_cons pe_int (pa_cons pe_int pa_nil)))) (pa_cons (pe_tup (pa_cons pe_str (pa_cons pe_str (pa_cons pe_str pa_nil)))) pa_nil))))))
    (pss_cons (ps_set (i := 3) sc_law_claim.nd rfl (Or.inl rfl) (pe_lst (pa_cons (pe_lst pa_nil) (pa_cons (pe_dnewX A.W) pa_nil))))
  (pss_cons (ps_for PassesOwn.never rfl (pi_range1 rfl A.T.range (pa_cons (pe_call (ok_law_next A) (hr.mono (by omega)) rfl A.law_next.m A.law_next.F.kp A.law_next.b .nil pass0 (pa_cons (pv 0) (pa_cons pe_int pa_nil))) pa_nil)) (pg_name (i := 4) sc_law_claim.nd rfl (Or.inl rfl))
    (pss_one (ps_expr (pe_call (ok_law_formula A 8) (hr.mono (by omega)) rfl A.law_formula.m A.law_formula.F.kp A.law_formula.b .nil pass0 (pa_cons (pv 0) (pa_cons (pv 3) (pa_cons (pe_call (ok_law_from A) (hr.mono (by omega)) rfl A.law_from.m A.law_from.F.kp A.law_from.b .nil pass0 (pa_cons (pv 0) (pa_cons pe_int (pa_cons pe_int pa_nil)))) (pa_cons (pe_call (ok_law_next A) (hr.mono (by omega)) rfl A.law_next.m A.law_next.F.kp A.law_next.b .nil pass0 (pa_cons (pv 0) (pa_cons pe_int pa_nil))) (pa_cons pe_bl pa_nil)))))))))
  (pss_one (ps_ret (pe_call (ok_law_twins A) (hr.mono (by omega)) rfl A.law_twins.m A.law_twins.F.kp A.law_twins.b .nil pass0 (pa_cons (pv 0) (pa_cons (pv 3) pa_nil))))))))))
  (pss_cons (ps_set (i := 5) sc_law_claim.nd rfl (Or.inl rfl) (pe_call (ok_law_sides A) (hr.mono (by omega)) rfl A.law_sides.m A.law_sides.F.kp A.law_sides.b .nil pass0 (pa_cons (pv 0) (pa_cons (pe_callB call_len_seq (by rfl) A.T.len PySem.boot_len (pa_cons (pv 2) pa_nil)) pa_nil))))
  (pss_cons (ps_set (i := 6) sc_law_claim.nd rfl (Or.inl rfl) (pe_tup (pa_cons (pv 2) (pa_cons (pe_tup pa_nil) (pa_cons (pe_ix ix_list (pv 5) pe_int (fun _ _ => rfl)) (pa_cons (pe_ix ix_list (pv 5) pe_int (fun _ _ => rfl)) pa_nil))))))
  (pss_one (ps_ret (pv 6))))))), ?_⟩
    have alM : ∀ {H' : Hp}, Adv [s] H H' → StrAt M H' s → ∀ b ∈ M, H' b ≠ none := fun a h => alloc_adv al a (by simpa using h.here)
    walk_at "rd"
    refine ⟨s, 80, M, rfl, hs, by decide, by decide, fun kd H2 k0 k1 hs2 a2 => ?_⟩
    walk_at "rd"
    refine ⟨fun σ' H' => ∃ (sh : Addr) (rs : List V) (y3 y4 : Option V), σ' = [some (.ref s), some (.int kd), some (.ref sh), y3, y4, none, none] ∧ H' sh = some (.lst rs) ∧ RwDs M H' rs ∧ rs.length ≤ 5001 ∧ sh ∉ M ∧ StrAt M H' s ∧ Adv [s] H H', ?_, ?_⟩
    · walk_at "rd"
      refine iteB (fun e => ?_) (fun e => ?_)
      · walk_at "rd"
        refine ⟨s, 1000, 4999, M, rfl, hs2, by decide, by decide, fun x H3 x0 x1 hs3 a3 => ?_⟩
        walk_at "rd"
        refine ⟨by show 3 ≤ sizeLine; decide, fun p np => ?_⟩
        have ap : Adv [] H3 (upd H3 p (.tup [.int 5000, .int 5001, .int x])) := Adv.new np
        refine ⟨s, p, [.int 5000, .int 5001, .int x], M, rfl, hs3.same ap, .inr upd_same, fun z => hs3.here (by rw [← z]; exact np), by simp, by simp, fun y H4 hy hs4 a4 => ?_⟩
        obtain ⟨m, rfl, m0, m1⟩ : ∃ m : Int, y = V.int m ∧ 5 ≤ m ∧ m ≤ 5001 := by
          simp at hy
          rcases hy with h | h | h <;> exact ⟨_, h, by omega, by omega⟩
        have a14 := ((a2.trans a3).trans (Adv.nil ap)).trans a4
        walk_at "rd"
        refine ⟨by show 3 ≤ sizeLine; decide, fun wt nw => ?_⟩
        have aw := Adv.new (M := []) (o := .tup ((["and", "or", "if"] : List Str).map V.str)) nw
        refine ⟨⟨M, s, wt, m, ["and", "or", "if"], rfl, hs4.same aw, ms, alloc_adv (alM a14 hs4) aw (by simp), upd_same, by simp, by simp, m0, m1, fun z => hs4.here (by rw [← z]; exact nw), fun Ln rs H5 nL hL X hl hs5 a5 => ?_⟩⟩
        walk_at "rd"
        exact ⟨Ln, rs, _, _, rfl, hL, X, by omega, fun z => alloc_adv (alM a14 hs4) aw (by simp) Ln z nL, hs5, (a14.trans (Adv.nil aw)).trans a5⟩
      · walk_at "rd"
        refine iteB (fun e => ?_) (fun e => ?_)
        · walk_at "rd"
          refine ⟨s, 61, 300, M, rfl, hs2, by decide, by decide, fun x H3 x0 x1 hs3 a3 => ?_⟩
          have a14 := a2.trans a3
          walk_at "rd"
          refine ⟨by show 3 ≤ sizeLine; decide, fun wt nw => ?_⟩
          have aw := Adv.new (M := []) (o := .tup ((["and", "or", "if"] : List Str).map V.str)) nw
          refine ⟨⟨M, s, wt, x, ["and", "or", "if"], rfl, hs3.same aw, ms, alloc_adv (alM a14 hs3) aw (by simp), upd_same, by simp, by simp, by omega, by omega, fun z => hs3.here (by rw [← z]; exact nw), fun Ln rs H5 nL hL X hl hs5 a5 => ?_⟩⟩
          walk_at "rd"
          exact ⟨Ln, rs, _, _, rfl, hL, X, by omega, fun z => alloc_adv (alM a14 hs3) aw (by simp) Ln z nL, hs5, (a14.trans (Adv.nil aw)).trans a5⟩
        · walk_at "rd"
          refine ⟨Nat.zero_le _, fun b0 n0 => ?_⟩
          walk_at "rd"
          intro b1 n1
          walk_at "rd"
          refine ⟨by show 2 ≤ sizeLine; decide, fun bk nk => ?_⟩
          have D0 := Dw.new (bx := false) hs2 ms (alM a2 hs2) n0 n1 nk
          have aB : Adv [] H2 _ := ((Adv.new (o := .lst []) n0).newT (o := dxo b1 []) n1).newT (o := .lst [.ref b0, .ref b1]) nk
          have ns_ : ∀ {x : Addr}, H2 x = none → x ∉ [s] := fun h => notin1 fun z => hs2.here (by rw [← z]; exact h)
          have n1' : H2 b1 = none := (Adv.new (M := []) n0).free (by simp) n1
          have n0H : H b0 = none := a2.free (ns_ n0) n0
          have n1H : H b1 = none := a2.free (ns_ n1') n1'
          have b0M : b0 ∉ M := fun z => alM a2 hs2 b0 z n0
          have b1M : b1 ∉ M := fun z => alM a2 hs2 b1 z n1'
          walk_at "rd"
          refine ⟨s, 4, _, rfl, D0.str, by decide, by decide, fun c H3 c0 c1 hs3 a3 => ?_⟩
          have D3 := D0.next a3 hs3
          have a03 : Adv [s, b0, b1] H H3 := a_s ((a2.trans (Adv.nil aB)).trans a3)
          walk_at "rd"
          refine ⟨by omega, by omega, ?_⟩
          refine for_range (lo := 0) (n := c.toNat) (fun i σ' H' => ∃ (ns : List Nd) (x2 x4 : Option V), σ' = [some (.ref s), some (.int kd), x2, some (.ref bk), x4, none, none] ∧ Dw (b1 :: b0 :: M) H' s bk b0 b1 false ns ∧ ns.length ≤ 20 * i ∧ Adv [s, b0, b1] H H')
            ⟨[], _, _, rfl, D3, Nat.le_refl _, a03⟩ ?_ ?_
          · rintro i σ' H' hi ⟨ns, x2, x4, rfl, D, hl, a'⟩
            walk_at "rd"
            refine ⟨s, 1, 8, _, rfl, D.str, by decide, by decide, fun l H4 l0 l1 hs4 a4 => ?_⟩
            have D4 := D.next a4 hs4
            walk_at "rd"
            refine ⟨s, 8, _, rfl, hs4, by decide, by decide, fun m H5 m0 m1 hs5 a5 => ?_⟩
            have D5 := D4.next a5 hs5
            walk_at "rd"
            refine ⟨⟨_, s, bk, b0, b1, false, ns, l, m, rfl, D5, by omega, by omega, m0, by omega, by omega, by omega, fun r ns6 H6 x => ?_⟩⟩
            have xl := x.le
            have a6 : Adv [s, b0, b1] H H6 := ((a'.trans (a_s a4)).trans (a_s a5)).trans x.a
            walk_at "rd"
            exact ⟨ns6, _, _, rfl, x.D, by omega, a6⟩
          · rintro σ' H' ⟨ns, x2, x4, rfl, D, hl, a'⟩
            walk_at "rd"
            refine ⟨⟨_, M, s, bk, b0, b1, ns, rfl, D, by omega, by simp +contextual, ms, b0M, b1M, fun cl H7 hC hS a7 => ?_⟩⟩
            walk_at "rd"
            have a8 : Adv [b1, b0, s] H H7 := (a'.trans a7).more (by simp)
            exact q cl H7 hC hS ((a8.drop n1H).drop n0H)
    · rintro σ' H3 ⟨sh, rs, y3, y4, rfl, hsh, X, hl, shM, hs3, a3⟩
      have shs : sh ∉ [s] := notin1 fun z => shM (by rw [z]; exact ms)
      walk_at "rd"
      refine ⟨⟨M, s, rs.length, rfl, hs3, ms, alM a3 hs3, by omega, fun fo t1 t2 r1 r2 H5 nfo hfo h1 h2 x1 x2 hs5 a5 => ?_⟩⟩
      walk_at "rd"
      refine ⟨Nat.zero_le _, fun em nem => ?_⟩
      have e1 := Adv.new (M := []) (o := .tup []) nem
      have hfo1 := e1.same _ _ hfo
      walk_at "rd"
      refine ⟨by show 4 ≤ sizeLine; decide, fun cl ncl => ?_⟩
      have e2 := Adv.new (M := []) (o := .tup [.ref sh, .ref em, .ref t1, .ref t2]) ncl
      have e12 := e1.trans e2
      have al5 := alM (a3.trans a5) hs5
      have sM : ∀ b ∈ [s], b ∈ M := by simpa using ms
      walk_at "rd"
      have l1 := x1.len
      have l2 := x2.len
      exact q cl _ ⟨sh, em, t1, t2, rs, r1, r2, fun z => al5 _ z (e1.free (by simp) ncl), upd_same, shM, e12.same _ _ (a5 _ _ shs hsh), (X.adv (a5.more sM)).adv (Adv.nil e12), by omega, .inl ⟨fun z => al5 _ z nem, e2.same _ _ upd_same⟩, h1.adv (Adv.nil e12), h2.adv (Adv.nil e12), by omega, by omega⟩ (hs5.same e12) ((a3.trans a5).trans (Adv.nil e12))
end
end K60

set_option Elab.async false
set_option linter.all false
set_option maxRecDepth 100000
set_option maxHeartbeats 400000
namespace K60
open PySem PySem.Spec PyProof.Rows L2 LL
open C8 (pss_cut)
local macro_rules | `(tactic| walk_at "ne") => `(tactic| first | assumption | (apply Ne.symm; assumption) | exact ne_of_none (by walk_at "hp") (by assumption) | exact (ne_of_none (by walk_at "hp") (by assumption)).symm)
local macro_rules | `(tactic| walk_at "nm") => `(tactic| first | assumption | exact notin0 | exact notin1 (by walk_at "ne") | exact notin2 (by walk_at "ne") (by walk_at "ne"))
local macro_rules | `(tactic| walk_at "hp") => `(tactic| first | assumption | exact upd_same | (refine Eq.trans (upd_ne ?ne) ?hh; (case hh => walk_at "hp"); (case ne => walk_at "ne")) | (refine Adv.get' (by assumption) ?hh ?nn; (case hh => walk_at "hp"); (case nn => walk_at "nm")))
local macro_rules | `(tactic| walk_at "tp") => `(tactic| first | assumption | exact Tp.adv (by walk_at "tp") (by assumption) | exact Tp.adv (by walk_at "tp") (Adv.nil (by assumption)))
local macro_rules | `(tactic| walk_at "sq") => `(tactic| first | assumption | exact Tp.sq (by assumption) (by walk_at "tp") | exact SqT.of (by walk_at "hp"))
local macro_rules | `(tactic| walk_at "at") => `(tactic| first | exact atI_nat (j := 0) rfl | exact atI_nat (j := 1) rfl | exact atI_nat (j := 2) rfl | exact atI_nat (j := 3) rfl | exact atI_nat (by assumption) | (rw [Int.zero_add]; exact atI_nat (by assumption)))
local macro_rules | `(tactic| walk_at "bb") => `(tactic| first | assumption | decide | exact rfl)
local macro_rules | `(tactic| walk_at "ci") => `(tactic| first | omega | (dsimp only; omega) | (unfold CDiv; omega) | (unfold CMul; omega))
local macro_rules | `(tactic| walk_at "rd1") => `(tactic| first
  | with_reducible refine rd_c ?_
  | ((with_reducible refine' rd_var ?rh ?_); (case rh => exact rfl))
  | with_reducible refine rd_op ?_
  | with_reducible refine rd_seq ?_
  | with_reducible refine rd_asg ?_
  | with_reducible refine rd_gname ?_
  | with_reducible refine rd_ifS ?_
  | with_reducible refine rd_test ?_
  | with_reducible refine rd_tB ?_
  | with_reducible refine rd_blP ?_
  | ((with_reducible refine' iteY ?rh ?_); (case rh => walk_at "bb"))
  | ((with_reducible refine' iteN ?rh ?_); (case rh => walk_at "bb"))
  | with_reducible refine rd_ret ?_
  | with_reducible refine rd_nx ?_
  | ((with_reducible refine' rd_eq ?rh ?_); (case rh => exact rfl))
  | ((with_reducible refine' rd_ne ?rh ?_); (case rh => exact rfl))
  | with_reducible refine rd_add ?_
  | with_reducible refine rd_sub ?_
  | with_reducible refine rd_i0 ?_
  | with_reducible refine rd_and ?_
  | with_reducible refine rd_or ?_
  | with_reducible refine rd_not ?_
  | with_reducible refine rd_andV ?_
  | with_reducible refine rd_orV ?_
  | with_reducible refine rd_notV ?_
  | with_reducible refine rd_ifE ?_
  | with_reducible refine rd_isN ?_
  | with_reducible refine rd_notN ?_
  | with_reducible refine rd_cons ?_
  | with_reducible refine rd_nil ?_
  | with_reducible refine rd_tup ?_
  | with_reducible refine rd_lst ?_
  | with_reducible refine rd_call ?_
  | with_reducible refine rd_cb ?_
  | with_reducible refine rd_meth ?_
  | with_reducible refine rd_callS ?_
  | with_reducible refine rd_make ?_
  | with_reducible refine rd_rfl ?_
  | with_reducible refine rd_fld ?_
  | with_reducible refine rd_drop ?_
  | with_reducible refine rd_gsub ?_
  | with_reducible refine rd_gcons ?_
  | with_reducible refine rd_gnil ?_
  | with_reducible refine rd_par ?_
  | with_reducible refine rd_two ?_
  | with_reducible refine rd_par3 ?_
  | with_reducible refine rd_three ?_
  | with_reducible refine rd_int1 ?_
  | ((with_reducible refine' rd_i ?rh ?_); (case rh => walk_at "ci"))
  | with_reducible refine rd_part ?_
  | with_reducible refine rd_nopart ?_
  | with_reducible refine rd_int ?_
  | with_reducible refine rd_sl ?_
  | with_reducible refine rd_bm ?_
  | with_reducible refine rd_bm0 ?_
  | with_reducible refine rd_dgetT ?_
  | with_reducible refine rd_din ?_
  | with_reducible refine rd_dnin ?_
  | with_reducible refine rd_un ?_
  | ((with_reducible refine' rd_ixL ?rh ?re ?_); (case rh => walk_at "hp"); (case re => walk_at "at"))
  | ((with_reducible refine' rd_ixT ?rh ?re ?_); (case rh => walk_at "sq"); (case re => walk_at "at"))
  | ((with_reducible refine' rd_lenT ?rh ?_); (case rh => walk_at "sq"))
  | ((with_reducible refine' rd_tyL ?rh ?_); (case rh => walk_at "hp"))
  | ((with_reducible refine' rd_len ?rh ?_); (case rh => walk_at "hp"))
  | with_reducible refine rd_u ?_
  | ((with_reducible refine' rd_slL ?rh ?_); (case rh => walk_at "hp"))
  | with_reducible refine rd_for ?_
  | with_reducible refine rd_rng1 ?_
  | with_reducible refine rd_rng2 ?_
  | with_reducible refine rd_ints1 ?_
  | with_reducible refine rd_ints2 ?_
  | with_reducible refine rd_retN ?_)
local macro_rules | `(tactic| walk_at "rd") => `(tactic| repeat walk_at "rd1")
section
variable [KW]
variable {P : Program} {w : World} {K : PySem.W.Frag} {mg : Str → Option Value} {base : Heap}
/-- flat items: scalars, rows, empty tuples -/
def FlDs (M : List Addr) (H : Hp) (vs : List V) : Prop := ∃ ds, IsDs M H ds vs ∧ ∀ d ∈ ds, sz d ≤ 10 ∧ dep d ≤ 1
/-- a part of a claim -/
def PartD (M : List Addr) (H : Hp) (v : V) : Prop := ∃ d, Is M H d v ∧ sz d ≤ 100000 ∧ dep d ≤ 2 ∧ lenT d ≤ 1000
/-- a whole claim, right or not -/
def WhoD (M : List Addr) (H : Hp) (v : V) : Prop := ∃ d, Is M H d v ∧ sz d ≤ 1000000 ∧ dep d ≤ 4 ∧ SmC d
section
variable {M : List Addr} {H H' : Hp} {v : V} {vs ws : List V} {p : Addr}
theorem FlDs.adv (x : FlDs M H vs) (a : Adv M H H') : FlDs M H' vs := let ⟨d, h, z⟩ := x; ⟨d, h.adv a, z⟩
theorem PartD.adv (x : PartD M H v) (a : Adv M H H') : PartD M H' v := let ⟨d, h, z⟩ := x; ⟨d, h.adv a, z⟩
theorem WhoD.adv (x : WhoD M H v) (a : Adv M H H') : WhoD M H' v := let ⟨d, h, z⟩ := x; ⟨d, h.adv a, z⟩
theorem FlDs.rows (x : RwDs M H vs) : FlDs M H vs := by
  obtain ⟨kss, h, z⟩ := x
  refine ⟨_, h, fun d hd => ?_⟩
  obtain ⟨ks, hk, rfl⟩ := List.mem_map.mp hd
  have := z ks hk
  unfold kT
  rw [sz_tup, ks_sz, dep_tup, ks_dep]
  omega
theorem FlDs.sc {xs : List V} (h : xs.all scV = true) : FlDs M H xs := by
  refine ⟨xs.map scD, sc_list h, fun d hd => ?_⟩
  obtain ⟨x, _, rfl⟩ := List.mem_map.mp hd
  rw [sc_sz, sc_dep]
  omega
theorem FlDs.nV (rows : List Nat) : FlDs M H (nVl rows) := by
  refine FlDs.sc (List.all_eq_true.mpr fun x hx => ?_)
  unfold nVl at hx
  obtain ⟨r, _, rfl⟩ := List.mem_map.mp hx
  rfl
theorem FlDs.app (x : FlDs M H vs) (y : FlDs M H ws) : FlDs M H (vs ++ ws) := by
  obtain ⟨ds, h, z⟩ := x
  obtain ⟨es, hs, zs⟩ := y
  refine ⟨ds ++ es, h.app hs, fun e he => ?_⟩
  rcases List.mem_append.mp he with he | he
  · exact z e he
  · exact zs e he
theorem FlDs.one (x : Is M H d v) (h : sz d ≤ 10) (h2 : dep d ≤ 1) : FlDs M H [v] := ⟨[d], .cons x .nil, fun e he => by rw [List.mem_singleton.mp he]; exact ⟨h, h2⟩⟩
theorem FlDs.nil : FlDs M H [] := ⟨[], .nil, by simp⟩
theorem FlDs.sub (x : FlDs M H vs) (n : Nat) : FlDs M H (vs.take n) := by
  obtain ⟨ds, hs, zs⟩ := x
  refine ⟨ds.take n, ?_, fun d hd => zs d (List.mem_of_mem_take hd)⟩
  refine IsDs.of_get (by rw [List.length_take, List.length_take, hs.len]) fun j d v h1 h2 => ?_
  rw [List.getElem?_take] at h1 h2
  split at h1
  · rename_i hj
    rw [if_pos hj] at h2
    obtain ⟨v', e, hv⟩ := hs.get h1
    rw [h2] at e
    cases e
    exact hv
  · cases h1
theorem FlDs.drop (x : FlDs M H vs) (n : Nat) : FlDs M H (vs.drop n) := by
  obtain ⟨ds, h, z⟩ := x
  exact ⟨ds.drop n, h.drop n, fun d hd => z d (List.mem_of_mem_drop hd)⟩
theorem FlDs.cut (x : FlDs M H vs) (lo hi : Option Int) : FlDs M H (cutV vs lo hi) := by
  unfold cutV
  exact (x.drop _).sub _
theorem FlDs.tup (x : FlDs M H vs) (h : Tp M H p vs) (hz : vs.length ≤ 1000) : PartD M H (.ref p) := by
  obtain ⟨ds, hs, zs⟩ := x
  have hl := hs.len
  have z1 := szL_le (k := 10) (fun d hd => (zs d hd).1)
  have z2 := depL_le (k := 1) (fun d hd => (zs d hd).2)
  exact ⟨.tuple ds, Is.tp h hs, by rw [sz_tup]; omega, by rw [dep_tup]; omega, by show ds.length ≤ 1000; omega⟩
theorem FlDs.lst (x : FlDs M H vs) (h : H p = some (.lst vs)) (hp : p ∉ M) (hz : vs.length ≤ 1000) : PartD M H (.ref p) := by
  obtain ⟨ds, hs, zs⟩ := x
  have hl := hs.len
  have z1 := szL_le (k := 10) (fun d hd => (zs d hd).1)
  have z2 := depL_le (k := 1) (fun d hd => (zs d hd).2)
  exact ⟨.list ds, Is.lst h hp hs, by rw [sz_lst]; omega, by rw [dep_lst]; omega, Nat.zero_le _⟩
theorem PartD.sc (h : scV v = true) : PartD M H v := ⟨scD v, sc_is h, by rw [sc_sz]; decide, by rw [sc_dep]; decide, by cases v <;> exact Nat.zero_le _⟩
theorem PartD.who {a b c e : V} (x1 : PartD M H a) (x2 : PartD M H b) (x3 : PartD M H c) (x4 : PartD M H e) (h : H p = some (.tup [a, b, c, e])) (hp : p ∉ M) : WhoD M H (.ref p) := by
  obtain ⟨d1, h1, z1, e1, l1⟩ := x1
  obtain ⟨d2, h2, z2, e2, l2⟩ := x2
  obtain ⟨d3, h3, z3, e3, l3⟩ := x3
  obtain ⟨d4, h4, z4, e4, l4⟩ := x4
  refine ⟨.tuple [d1, d2, d3, d4], Is.tup h hp (.cons h1 (.cons h2 (.cons h3 (.cons h4 .nil)))), ?_, ?_, fun a b c e he => ?_⟩
  · rw [sz_tup, szL_cons, szL_cons, szL_cons, szL_cons, szL_nil]
    omega
  · have : depL [d1, d2, d3, d4] ≤ 2 := depL_le fun d hd => by
      simp at hd
      rcases hd with rfl | rfl | rfl | rfl <;> assumption
    rw [dep_tup]
    omega
  · injection he with he
    injection he with _ he
    injection he with _ he
    injection he with x3 he
    injection he with x4 _
    subst x3 x4
    omega
theorem WhoD.no {d : PyData} (h : Is M H d v) (h1 : sz d ≤ 1000000) (h2 : dep d ≤ 4) (h3 : ∀ a b c e, d ≠ .tuple [a, b, c, e]) : WhoD M H v := ⟨d, h, h1, h2, fun a b c e he => absurd he (h3 a b c e)⟩
end
theorem parts_ds {M : List Addr} {H : Hp} : ∀ {vs : List V}, (∀ v ∈ vs, PartD M H v) → ∃ ds, IsDs M H ds vs ∧ ds.length = vs.length ∧ ∀ d ∈ ds, sz d ≤ 100000 ∧ dep d ≤ 2
  | [], _ => ⟨[], .nil, rfl, by simp⟩
  | v :: vs, h => by
    obtain ⟨d, hd, z1, z2, _⟩ := h v List.mem_cons_self
    obtain ⟨ds, hs, hl, z⟩ := parts_ds fun u hu => h u (List.mem_cons_of_mem _ hu)
    exact ⟨d :: ds, .cons hd hs, by simp [hl], fun e he => by
      rcases List.mem_cons.mp he with rfl | he
      · exact ⟨z1, z2⟩
      · exact z e he⟩
theorem who_lstP {M : List Addr} {H : Hp} {vs : List V} {p : Addr} (h : ∀ v ∈ vs, PartD M H v) (hp : H p = some (.lst vs)) (pM : p ∉ M) (hl : vs.length ≤ 5) : WhoD M H (.ref p) := by
  obtain ⟨ds, hs, he, z⟩ := parts_ds h
  have z1 := szL_le (k := 100000) (fun d hd => (z d hd).1)
  have z2 := depL_le (k := 2) (fun d hd => (z d hd).2)
  exact WhoD.no (Is.lst hp pM hs) (by rw [sz_lst]; omega) (by rw [dep_lst]; omega) (fun _ _ _ _ => nofun)
theorem who_tupP {M : List Addr} {H : Hp} {vs : List V} {p : Addr} (h : ∀ v ∈ vs, PartD M H v) (hp : Tp M H p vs) (hl : vs.length ≤ 5) (h4 : vs.length ≠ 4) : WhoD M H (.ref p) := by
  obtain ⟨ds, hs, he, z⟩ := parts_ds h
  have z1 := szL_le (k := 100000) (fun d hd => (z d hd).1)
  have z2 := depL_le (k := 2) (fun d hd => (z d hd).2)
  refine WhoD.no (Is.tp hp hs) (by rw [sz_tup]; omega) (by rw [dep_tup]; omega) (fun a b c e z => ?_)
  injection z with z
  rw [z] at he
  exact h4 he.symm
theorem who_sheet {M : List Addr} {H : Hp} {vs : List V} {p : Addr} (x : FlDs M H vs) (h : H p = some (.lst vs)) (hp : p ∉ M) (hz : vs.length ≤ 1000) : WhoD M H (.ref p) := by
  obtain ⟨ds, hs, zs⟩ := x
  have hl := hs.len
  have z1 := szL_le (k := 10) (fun d hd => (zs d hd).1)
  have z2 := depL_le (k := 1) (fun d hd => (zs d hd).2)
  exact WhoD.no (Is.lst h hp hs) (by rw [sz_lst]; omega) (by rw [dep_lst]; omega) (fun _ _ _ _ => nofun)
theorem nw_lst {M : List Addr} {H : Hp} {p : Addr} {vs : List V} (x : FlDs M (upd H p (.lst vs)) vs) (np : H p = none) (f : p ∉ M) (hz : vs.length ≤ 1000) : PartD M (upd H p (.lst vs)) (.ref p) := x.lst upd_same f hz
theorem nw_tup {M : List Addr} {H : Hp} {p : Addr} {vs : List V} (x : FlDs M (upd H p (.tup vs)) vs) (np : H p = none) (f : p ∉ M) (hz : vs.length ≤ 1000) : PartD M (upd H p (.tup vs)) (.ref p) := x.tup (.inl ⟨f, upd_same⟩) hz
theorem nw_row {M : List Addr} {H : Hp} {p : Addr} {vs : List V} (np : H p = none) (f : p ∉ M) (h : vs.all scV = true) (hz : vs.length ≤ 9) : FlDs M (upd H p (.tup vs)) [.ref p] :=
  FlDs.one (Is.tp (.inl ⟨f, upd_same⟩) (sc_list h)) (by rw [sz_tup, sc_szL]; omega) (by rw [dep_tup, sc_depL]; omega)
theorem nw_tp {M : List Addr} {H : Hp} {p : Addr} {vs : List V} (np : H p = none) (f : p ∉ M) : Tp M (upd H p (.tup vs)) p vs := .inl ⟨f, upd_same⟩
theorem go_catA {M : List Addr} {H : Hp} {Q : VK} {a b : Addr} {xs ys : List V} (W : KWOk K w) (h1 : Tp M H a xs) (h2 : Tp M H b ys) (al : ∀ b ∈ M, H b ≠ none) (hz : xs.length + ys.length ≤ sizeLine)
    (q : ∀ c H', Tp M H' c (xs ++ ys) → Adv [] H H' → Q (.ref c) H') : rCatA K (.ref a) (.ref b) H Q := by
  refine ⟨a, b, xs, ys, rfl, rfl, h1.sq W, h2.sq W, hz, fun e => ?_, fun _ e => ?_, fun _ _ p np => ?_⟩
  · exact q b H (by rw [e, List.nil_append]; exact h2) (Adv.refl _ _)
  · exact q a H (by rw [e, List.append_nil]; exact h1) (Adv.refl _ _)
  · exact q p _ (.inl ⟨fun z => al _ z np, upd_same⟩) (Adv.new np)
/-! ### _law_bent -/
structure BenP (vs : List V) (H : Hp) (Q : VK) : Prop where
  ex : ∃ (M : List Addr) (s cl sh em lt rt : Addr) (rs : List V) (le ri : List Nat), vs = [.ref s, .ref cl] ∧ StrAt M H s ∧ s ∈ M ∧ (∀ b ∈ M, H b ≠ none) ∧ cl ∉ M ∧ H cl = some (.tup [.ref sh, .ref em, .ref lt, .ref rt]) ∧ sh ∉ M ∧ H sh = some (.lst rs) ∧ RwDs M H rs ∧ rs.length ≤ 400 ∧ Tp M H em [] ∧ Tp M H lt (nVl le) ∧ Tp M H rt (nVl ri) ∧ le.length ≤ 100 ∧ ri.length ≤ 100 ∧
    ∀ v H', WhoD M H' v → StrAt M H' s → Adv [s] H H' → Q v H'
def spBen : Sp := fun vs H Q _ => BenP vs H Q
theorem ok_law_bent (A : All K mg w) : FnOk P w K mg base CX0 3 A.law_bent.f A.law_bent.fd ["stream", "claim"] spBen := by
  refine A.law_bent.F.ok sc_law_bent (fun vs H Q E h => ?_) (fun cdv Ar outer s0 H vs Q E hr h => ?_)
  · obtain ⟨M, s, cl, sh, em, lt, rt, rs, le, ri, rfl, _⟩ := h.ex
    rfl
  · obtain ⟨M, s, cl, sh, em, lt, rt, rs, le, ri, rfl, hs, ms, al, clM, hcl, shM, hsh, X, hlr, hem, hlt, hrt, zl, zr, q⟩ := h.ex
    refine ⟨_, (pss_cons (ps_asg (pv 1) (pg_tup rfl (pgs_cons (pg_name (i := 2) sc_law_bent.nd rfl (Or.inl rfl)) (pgs_cons (pg_name (i := 3) sc_law_bent.nd rfl (Or.inl rfl)) (pgs_cons (pg_name (i := 4) sc_law_bent.nd rfl (Or.inl rfl)) (pgs_cons (pg_name (i := 5) sc_law_bent.nd rfl (Or.inl rfl)) pgs_nil))))))
  (pss_cons (ps_set (i := 6) sc_law_bent.nd rfl (Or.inl rfl) (pe_callB call_len_seq (by rfl) A.T.len PySem.boot_len (pa_cons (pv 2) pa_nil)))
  (pss_cons (ps_set (i := 7) sc_law_bent.nd rfl (Or.inl rfl) (pe_call (ok_law_next A) (hr.mono (by omega)) rfl A.law_next.m A.law_next.F.kp A.law_next.b .nil pass0 (pa_cons (pv 0) (pa_cons pe_int pa_nil))))
  (pss_cons (ps_if (pt_cmpR op_eq (pv 7) pe_int (nomark _))
    (pss_one (ps_ret (pe_call (ok_law_pick A) (hr.mono (by omega)) rfl A.law_pick.m A.law_pick.F.kp A.law_pick.b .nil pass0 (pa_cons (pv 0) (pa_cons (pe_tup (pa_cons (pe_callTy call_list_of (by rfl) A.T.list (by decide +kernel) (pa_cons (pv 1) pa_nil)) (pa_cons (pe_slice sl_tup (pv 1) po_none (po_some pe_int)) (pa_cons (pe_op op_catA (pv 1) (pe_tup (pa_cons (pe_tup pa_nil) pa_nil))) (pa_cons pe_non (pa_cons (pe_tup pa_nil) (pa_cons (pv 2) pa_nil))))))) pa_nil)))))
    pss_nil)
  (pss_cons (ps_if (pt_cmpR op_eq (pv 7) pe_int (nomark _))
    (pss_cons (ps_set (i := 8) sc_law_bent.nd rfl (Or.inl rfl) (pe_call (ok_law_pick A) (hr.mono (by omega)) rfl A.law_pick.m A.law_pick.F.kp A.law_pick.b .nil pass0 (pa_cons (pv 0) (pa_cons (pe_tup (pa_cons (pe_callTy call_tuple_of (by rfl) A.T.tuple (by decide +kernel) (pa_cons (pv 2) pa_nil)) (pa_cons (pe_op op_cat (pv 2) (pe_lst (pa_cons (pe_tup (pa_cons pe_str (pa_cons pe_int pa_nil))) pa_nil))) (pa_cons (pe_op op_cat (pe_lst (pa_cons (pe_tup (pa_cons pe_str (pa_cons pe_int pa_nil))) pa_nil)) (pv 2)) (pa_cons (pe_op op_cat (pv 2) (pe_lst (pa_cons (pe_tup (pa_cons pe_str (pa_cons pe_int pa_nil))) pa_nil))) (pa_cons (pe_op op_cat (pv 2) (pe_slice sl_list (pv 2) po_none (po_some pe_int))) (pa_cons (pe_op op_cat (pv 2) (pe_lst (pa_cons (pe_tup (pa_cons pe_str (pa_cons (pv 6) (pa_cons pe_int pa_nil)))) pa_nil))) pa_nil))))))) pa_nil))))
  (pss_one (ps_ret (pe_tup (pa_cons (pv 8) (pa_cons (pv 3) (pa_cons (pv 4) (pa_cons (pv 5) pa_nil))))))))
    pss_nil)
  (pss_cons (ps_if (pt_cmpR op_eq (pv 7) pe_int (nomark _))
    (pss_one (ps_ret (pe_tup (pa_cons (pv 2) (pa_cons (pe_call (ok_law_pick A) (hr.mono (by omega)) rfl A.law_pick.m A.law_pick.F.kp A.law_pick.b .nil pass0 (pa_cons (pv 0) (pa_cons (pe_tup (pa_cons (pe_tup (pa_cons pe_int pa_nil)) (pa_cons pe_non (pa_cons (pe_lst pa_nil) (pa_cons (pe_tup (pa_cons (pv 6) pa_nil)) (pa_cons (pe_tup (pa_cons (pe_tup pa_nil) pa_nil)) pa_nil)))))) pa_nil))) (pa_cons (pv 4) (pa_cons (pv 5) pa_nil)))))))
    pss_nil)
  (pss_cons (ps_set (i := 9) sc_law_bent.nd rfl (Or.inl rfl) (pe_call (ok_law_pick A) (hr.mono (by omega)) rfl A.law_pick.m A.law_pick.F.kp A.law_pick.b .nil pass0 (pa_cons (pv 0) (pa_cons (pe_tup (pa_cons (pe_callTy call_list_of (by rfl) A.T.list (by decide +kernel) (pa_cons (pv 4) pa_nil)) (pa_cons (pe_op op_catA (pv 4) (pe_tup (pa_cons (pv 6) pa_nil))) (pa_cons (pe_tup (pa_cons pe_int (pa_cons pe_int pa_nil))) (pa_cons (pe_tup (pa_cons pe_int (pa_cons pe_int pa_nil))) (pa_cons (pe_tup (pa_cons pe_bl pa_nil)) (pa_cons (pe_tup (pa_cons (pe_un un_neg pe_int) pa_nil)) (pa_cons pe_non (pa_cons (pe_op op_catA (pv 4) (pv 4)) (pa_cons (pe_tup (pa_cons pe_non pa_nil)) (pa_cons (pe_tup (pa_cons pe_str pa_nil)) pa_nil))))))))))) pa_nil))))
  (pss_cons (ps_if (pt_cmpR op_eq (pv 7) pe_int (nomark _))
    (pss_one (ps_ret (pe_tup (pa_cons (pv 2) (pa_cons (pv 3) (pa_cons (pv 9) (pa_cons (pv 5) pa_nil)))))))
    pss_nil)
  (pss_one (ps_ret (pe_tup (pa_cons (pv 2) (pa_cons (pv 3) (pa_cons (pv 4) (pa_cons (pv 9) pa_nil))))))))))))))), ?_⟩
    have mM : ∀ b ∈ [s], b ∈ M := by simp [ms]
    have cs : cl ∉ [s] := fun z => clM (mM _ z)
    have ss : sh ∉ [s] := fun z => shM (mM _ z)
    have scl := SqT.of (K := K) hcl
    walk_at "rd"
    refine rd_gtup scl rfl ?_
    walk_at "rd"
    refine ⟨s, 5, M, rfl, hs, by decide, by decide, fun kd H1 k0 k1 hs1 a1 => ?_⟩
    have al1 := alloc_adv al a1 (by simpa using hs1.here)
    have hcl1 := a1 _ _ cs hcl
    have scl1 := SqT.of (K := K) hcl1
    have hsh1 := a1 _ _ ss hsh
    have X1 := FlDs.rows (X.adv (a1.more mM))
    have em1 := hem.adv (a1.more mM)
    have lt1 := hlt.adv (a1.more mM)
    have rt1 := hrt.adv (a1.more mM)
    have pE : ∀ {H' : Hp}, Adv M H1 H' → PartD M H' (.ref em) := fun a => FlDs.nil.tup (em1.adv a) (by simp)
    have pL : ∀ {H' : Hp}, Adv M H1 H' → PartD M H' (.ref lt) := fun a => (FlDs.nV le).tup (lt1.adv a) (by rw [nVl_len]; omega)
    have pR : ∀ {H' : Hp}, Adv M H1 H' → PartD M H' (.ref rt) := fun a => (FlDs.nV ri).tup (rt1.adv a) (by rw [nVl_len]; omega)
    have pS : ∀ {H' : Hp}, Adv M H1 H' → PartD M H' (.ref sh) := fun a => (X1.adv a).lst (a _ _ shM hsh1) shM (by omega)
    walk_at "rd"
    refine iteB (fun e => ?_) (fun e => ?_)
    · walk_at "rd"
      have tcl : Tp M H1 cl [.ref sh, .ref em, .ref lt, .ref rt] := .inl ⟨clM, hcl1⟩
      intro p1 n1
      have b1 := Adv.new (M := []) (o := .lst [.ref sh, .ref em, .ref lt, .ref rt]) n1
      have f1 : p1 ∉ M := fun z => al1 _ z n1
      have hp1 := upd_same (H := H1) (a := p1) (o := .lst [.ref sh, .ref em, .ref lt, .ref rt])
      have al2 := alloc_adv al1 b1 (by simp)
      have scl2 := SqT.adv b1 scl1
      generalize (upd H1 p1 (.lst [.ref sh, .ref em, .ref lt, .ref rt])) = H2 at b1 hp1 al2 scl2
      walk_at "rd"
      refine ⟨cl, _, rfl, scl2, (show ¬ (HT.sIx 4 0 none = 0 ∧ HT.sIx 4 4 (some 3) = 4) from by decide), fun p2 n2 => ?_⟩
      have e3 : cutV [V.ref sh, .ref em, .ref lt, .ref rt] none (some 3) = [V.ref sh, .ref em, .ref lt] := rfl
      rw [e3]
      have b2 := Adv.new (M := []) (o := .tup [.ref sh, .ref em, .ref lt]) n2
      have f2 : p2 ∉ M := fun z => al2 _ z n2
      have hp2 := upd_same (H := H2) (a := p2) (o := .tup [.ref sh, .ref em, .ref lt])
      have al3 := alloc_adv al2 b2 (by simp)
      generalize (upd H2 p2 (.tup [.ref sh, .ref em, .ref lt])) = H3 at b2 hp2 al3
      walk_at "rd"
      refine ⟨Nat.zero_le _, fun p3 n3 => ?_⟩
      have b3 := Adv.new (M := []) (o := .tup []) n3
      have f3 : p3 ∉ M := fun z => al3 _ z n3
      have hp3 := upd_same (H := H3) (a := p3) (o := .tup [])
      have al4 := alloc_adv al3 b3 (by simp)
      generalize (upd H3 p3 (.tup [])) = H4 at b3 hp3 al4
      walk_at "rd"
      refine ⟨by show 1 ≤ sizeLine; decide, fun p4 n4 => ?_⟩
      have b4 := Adv.new (M := []) (o := .tup [.ref p3]) n4
      have f4 : p4 ∉ M := fun z => al4 _ z n4
      have hp4 := upd_same (H := H4) (a := p4) (o := .tup [.ref p3])
      have al5 := alloc_adv al4 b4 (by simp)
      generalize (upd H4 p4 (.tup [.ref p3])) = H5 at b4 hp4 al5
      refine go_catA A.W (tcl.adv (Adv.nil (((b1.trans b2).trans b3).trans b4))) (.inl ⟨f4, hp4⟩) al5 (by simp [sizeLine_eq]) (fun c5 H6 hc5 b5 => ?_)
      have al6 := alloc_adv al5 b5 (by simp)
      walk_at "rd"
      refine ⟨Nat.zero_le _, fun p6 n6 => ?_⟩
      have b6 := Adv.new (M := []) (o := .tup []) n6
      have f6 : p6 ∉ M := fun z => al6 _ z n6
      have hp6 := upd_same (H := H6) (a := p6) (o := .tup [])
      have al7 := alloc_adv al6 b6 (by simp)
      generalize (upd H6 p6 (.tup [])) = H7 at b6 hp6 al7
      walk_at "rd"
      refine ⟨by show 6 ≤ sizeLine; decide, fun p7 n7 => ?_⟩
      have b7 := Adv.new (M := []) (o := .tup [.ref p1, .ref p2, .ref c5, .non, .ref p6, .ref sh]) n7
      have c17 := (((((b1.trans b2).trans b3).trans b4).trans b5).trans b6).trans b7
      have c7 := ((((b1.trans b2).trans b3).trans b4).trans b5).trans b6
      refine ⟨s, p7, _, M, rfl, hs1.same c17, .inr upd_same, fun z => (hs1.same c7).here (by rw [← z]; exact n7), by simp, by simp, fun x H9 hx hs9 a9 => ?_⟩
      have d9 : Adv M _ H9 := a9.more mM
      have c19 : Adv [s] H1 H9 := (Adv.nil c17).trans a9
      have e19 : Adv M H1 H9 := c19.more mM
      have ps4 : ∀ v ∈ ([.ref sh, .ref em, .ref lt, .ref rt] : List V), PartD M H9 v := fun v hv => by
        simp at hv
        rcases hv with rfl | rfl | rfl | rfl
        · exact pS e19
        · exact pE e19
        · exact pL e19
        · exact pR e19
      refine q x H9 ?_ hs9 (a1.trans c19)
      simp at hx
      rcases hx with rfl | rfl | rfl | rfl | rfl | rfl
      · exact who_lstP ps4 (d9 _ _ f1 ((((((b2.trans b3).trans b4).trans b5).trans b6).trans b7).same _ _ hp1)) f1 (by simp)
      · exact who_tupP (vs := [.ref sh, .ref em, .ref lt]) (fun v hv => ps4 v (by simp at hv ⊢; rcases hv with h | h | h <;> simp [h])) (.inl ⟨f2, d9 _ _ f2 (((((b3.trans b4).trans b5).trans b6).trans b7).same _ _ hp2)⟩) (by simp) (by simp)
      · refine who_tupP (vs := [.ref sh, .ref em, .ref lt, .ref rt] ++ [.ref p3]) (fun v hv => ?_) ((hc5.adv (Adv.nil (b6.trans b7))).adv d9) (by simp) (by simp)
        rcases List.mem_append.mp hv with h | h
        · exact ps4 v h
        · rw [List.mem_singleton.mp h]
          exact FlDs.nil.tup (.inl ⟨f3, d9 _ _ f3 ((((b4.trans b5).trans b6).trans b7).same _ _ hp3)⟩) (by simp)
      · exact WhoD.no Is.non (by rw [sz_non]; decide) (by rw [dep_non]; decide) (fun _ _ _ _ => nofun)
      · exact who_tupP (vs := []) (by simp) (.inl ⟨f6, d9 _ _ f6 (b7.same _ _ hp6)⟩) (by simp) (by simp)
      · exact who_sheet (X1.adv e19) (e19 _ _ shM hsh1) shM (by omega)
    · walk_at "rd"
      refine iteB (fun e => ?_) (fun e => ?_)
      · have X_ := X1
        have hsh_ := hsh1
        have ac := Adv.refl [] H1
        have al_ := al1
        have hs_ := hs1
        walk_at "rd"
        refine ⟨sh, _, rfl, .inl ⟨SqL.of hsh_, fun p1 n1 => ?_⟩⟩
        have b1 := Adv.new (M := []) (o := .tup rs) n1
        have f1 : p1 ∉ M := fun z => al_ _ z n1
        have X_ := X_.adv (Adv.nil b1)
        have hsh_ := b1.same _ _ hsh_
        have ac := ac.trans b1
        have al_ := alloc_adv al_ b1 (by simp)
        have hs_ := hs_.same b1
        have P1 := nw_tup X_ n1 f1 (by omega)
        walk_at "rd"
        refine ⟨by show 2 ≤ sizeLine; decide, fun p2 n2 => ?_⟩
        have b2 := Adv.new (M := []) (o := .tup [.str "box", .int 0]) n2
        have f2 : p2 ∉ M := fun z => al_ _ z n2
        have X_ := X_.adv (Adv.nil b2)
        have P1 := P1.adv (Adv.nil b2)
        have hsh_ := b2.same _ _ hsh_
        have ac := ac.trans b2
        have al_ := alloc_adv al_ b2 (by simp)
        have hs_ := hs_.same b2
        have R2 := nw_row (vs := [.str "box", .int 0]) n2 f2 rfl (by simp)
        walk_at "rd"
        refine ⟨by show 1 ≤ sizeLine; decide, fun p3 n3 => ?_⟩
        have b3 := Adv.new (M := []) (o := .lst [.ref p2]) n3
        have f3 : p3 ∉ M := fun z => al_ _ z n3
        have X_ := X_.adv (Adv.nil b3)
        have P1 := P1.adv (Adv.nil b3)
        have R2 := R2.adv (Adv.nil b3)
        have hsh_ := b3.same _ _ hsh_
        have ac := ac.trans b3
        have al_ := alloc_adv al_ b3 (by simp)
        have hs_ := hs_.same b3
        walk_at "rd"
        refine rd_cat hsh_ upd_same (by simp [sizeLine_eq]; omega) (fun p4 n4 => ?_)
        have b4 := Adv.new (M := []) (o := .lst (rs ++ [.ref p2])) n4
        have f4 : p4 ∉ M := fun z => al_ _ z n4
        have X_ := X_.adv (Adv.nil b4)
        have P1 := P1.adv (Adv.nil b4)
        have R2 := R2.adv (Adv.nil b4)
        have hsh_ := b4.same _ _ hsh_
        have ac := ac.trans b4
        have al_ := alloc_adv al_ b4 (by simp)
        have hs_ := hs_.same b4
        have P2 := nw_lst (X_.app R2) n4 f4 (by simp; omega)
        walk_at "rd"
        refine ⟨by show 2 ≤ sizeLine; decide, fun p5 n5 => ?_⟩
        have b5 := Adv.new (M := []) (o := .tup [.str "box", .int 0]) n5
        have f5 : p5 ∉ M := fun z => al_ _ z n5
        have X_ := X_.adv (Adv.nil b5)
        have P1 := P1.adv (Adv.nil b5)
        have R2 := R2.adv (Adv.nil b5)
        have P2 := P2.adv (Adv.nil b5)
        have hsh_ := b5.same _ _ hsh_
        have ac := ac.trans b5
        have al_ := alloc_adv al_ b5 (by simp)
        have hs_ := hs_.same b5
        have R3 := nw_row (vs := [.str "box", .int 0]) n5 f5 rfl (by simp)
        walk_at "rd"
        refine ⟨by show 1 ≤ sizeLine; decide, fun p6 n6 => ?_⟩
        have b6 := Adv.new (M := []) (o := .lst [.ref p5]) n6
        have f6 : p6 ∉ M := fun z => al_ _ z n6
        have X_ := X_.adv (Adv.nil b6)
        have P1 := P1.adv (Adv.nil b6)
        have R2 := R2.adv (Adv.nil b6)
        have P2 := P2.adv (Adv.nil b6)
        have R3 := R3.adv (Adv.nil b6)
        have hsh_ := b6.same _ _ hsh_
        have ac := ac.trans b6
        have al_ := alloc_adv al_ b6 (by simp)
        have hs_ := hs_.same b6
        walk_at "rd"
        refine rd_cat upd_same hsh_ (by simp [sizeLine_eq]; omega) (fun p7 n7 => ?_)
        have b7 := Adv.new (M := []) (o := .lst ([.ref p5] ++ rs)) n7
        have f7 : p7 ∉ M := fun z => al_ _ z n7
        have X_ := X_.adv (Adv.nil b7)
        have P1 := P1.adv (Adv.nil b7)
        have R2 := R2.adv (Adv.nil b7)
        have P2 := P2.adv (Adv.nil b7)
        have R3 := R3.adv (Adv.nil b7)
        have hsh_ := b7.same _ _ hsh_
        have ac := ac.trans b7
        have al_ := alloc_adv al_ b7 (by simp)
        have hs_ := hs_.same b7
        have P3 := nw_lst (R3.app X_) n7 f7 (by simp; omega)
        walk_at "rd"
        refine ⟨by show 2 ≤ sizeLine; decide, fun p8 n8 => ?_⟩
        have b8 := Adv.new (M := []) (o := .tup [.str "letter", .int 8]) n8
        have f8 : p8 ∉ M := fun z => al_ _ z n8
        have X_ := X_.adv (Adv.nil b8)
        have P1 := P1.adv (Adv.nil b8)
        have R2 := R2.adv (Adv.nil b8)
        have P2 := P2.adv (Adv.nil b8)
        have R3 := R3.adv (Adv.nil b8)
        have P3 := P3.adv (Adv.nil b8)
        have hsh_ := b8.same _ _ hsh_
        have ac := ac.trans b8
        have al_ := alloc_adv al_ b8 (by simp)
        have hs_ := hs_.same b8
        have R4 := nw_row (vs := [.str "letter", .int 8]) n8 f8 rfl (by simp)
        walk_at "rd"
        refine ⟨by show 1 ≤ sizeLine; decide, fun p9 n9 => ?_⟩
        have b9 := Adv.new (M := []) (o := .lst [.ref p8]) n9
        have f9 : p9 ∉ M := fun z => al_ _ z n9
        have X_ := X_.adv (Adv.nil b9)
        have P1 := P1.adv (Adv.nil b9)
        have R2 := R2.adv (Adv.nil b9)
        have P2 := P2.adv (Adv.nil b9)
        have R3 := R3.adv (Adv.nil b9)
        have P3 := P3.adv (Adv.nil b9)
        have R4 := R4.adv (Adv.nil b9)
        have hsh_ := b9.same _ _ hsh_
        have ac := ac.trans b9
        have al_ := alloc_adv al_ b9 (by simp)
        have hs_ := hs_.same b9
        walk_at "rd"
        refine rd_cat hsh_ upd_same (by simp [sizeLine_eq]; omega) (fun p10 n10 => ?_)
        have b10 := Adv.new (M := []) (o := .lst (rs ++ [.ref p8])) n10
        have f10 : p10 ∉ M := fun z => al_ _ z n10
        have X_ := X_.adv (Adv.nil b10)
        have P1 := P1.adv (Adv.nil b10)
        have R2 := R2.adv (Adv.nil b10)
        have P2 := P2.adv (Adv.nil b10)
        have R3 := R3.adv (Adv.nil b10)
        have P3 := P3.adv (Adv.nil b10)
        have R4 := R4.adv (Adv.nil b10)
        have hsh_ := b10.same _ _ hsh_
        have ac := ac.trans b10
        have al_ := alloc_adv al_ b10 (by simp)
        have hs_ := hs_.same b10
        have P4 := nw_lst (X_.app R4) n10 f10 (by simp; omega)
        walk_at "rd"
        intro p11 n11
        have b11 := Adv.new (M := []) (o := .lst (cutV rs none (some 1))) n11
        have f11 : p11 ∉ M := fun z => al_ _ z n11
        have X_ := X_.adv (Adv.nil b11)
        have P1 := P1.adv (Adv.nil b11)
        have R2 := R2.adv (Adv.nil b11)
        have P2 := P2.adv (Adv.nil b11)
        have R3 := R3.adv (Adv.nil b11)
        have P3 := P3.adv (Adv.nil b11)
        have R4 := R4.adv (Adv.nil b11)
        have P4 := P4.adv (Adv.nil b11)
        have hsh_ := b11.same _ _ hsh_
        have ac := ac.trans b11
        have al_ := alloc_adv al_ b11 (by simp)
        have hs_ := hs_.same b11
        have cl_ := cut_len rs none (some 1)
        walk_at "rd"
        refine rd_cat hsh_ upd_same (by rw [sizeLine_eq]; omega) (fun p12 n12 => ?_)
        have b12 := Adv.new (M := []) (o := .lst (rs ++ cutV rs none (some 1))) n12
        have f12 : p12 ∉ M := fun z => al_ _ z n12
        have X_ := X_.adv (Adv.nil b12)
        have P1 := P1.adv (Adv.nil b12)
        have R2 := R2.adv (Adv.nil b12)
        have P2 := P2.adv (Adv.nil b12)
        have R3 := R3.adv (Adv.nil b12)
        have P3 := P3.adv (Adv.nil b12)
        have R4 := R4.adv (Adv.nil b12)
        have P4 := P4.adv (Adv.nil b12)
        have hsh_ := b12.same _ _ hsh_
        have ac := ac.trans b12
        have al_ := alloc_adv al_ b12 (by simp)
        have hs_ := hs_.same b12
        have P5 := nw_lst (X_.app (X_.cut none (some 1))) n12 f12 (by rw [List.length_append]; omega)
        walk_at "rd"
        refine ⟨by show 3 ≤ sizeLine; decide, fun p13 n13 => ?_⟩
        have b13 := Adv.new (M := []) (o := .tup [.str "if", .int (rs.length : Nat), .int 0]) n13
        have f13 : p13 ∉ M := fun z => al_ _ z n13
        have X_ := X_.adv (Adv.nil b13)
        have P1 := P1.adv (Adv.nil b13)
        have R2 := R2.adv (Adv.nil b13)
        have P2 := P2.adv (Adv.nil b13)
        have R3 := R3.adv (Adv.nil b13)
        have P3 := P3.adv (Adv.nil b13)
        have R4 := R4.adv (Adv.nil b13)
        have P4 := P4.adv (Adv.nil b13)
        have P5 := P5.adv (Adv.nil b13)
        have hsh_ := b13.same _ _ hsh_
        have ac := ac.trans b13
        have al_ := alloc_adv al_ b13 (by simp)
        have hs_ := hs_.same b13
        have R6 := nw_row (vs := [.str "if", .int (rs.length : Nat), .int 0]) n13 f13 rfl (by simp)
        walk_at "rd"
        refine ⟨by show 1 ≤ sizeLine; decide, fun p14 n14 => ?_⟩
        have b14 := Adv.new (M := []) (o := .lst [.ref p13]) n14
        have f14 : p14 ∉ M := fun z => al_ _ z n14
        have X_ := X_.adv (Adv.nil b14)
        have P1 := P1.adv (Adv.nil b14)
        have R2 := R2.adv (Adv.nil b14)
        have P2 := P2.adv (Adv.nil b14)
        have R3 := R3.adv (Adv.nil b14)
        have P3 := P3.adv (Adv.nil b14)
        have R4 := R4.adv (Adv.nil b14)
        have P4 := P4.adv (Adv.nil b14)
        have P5 := P5.adv (Adv.nil b14)
        have R6 := R6.adv (Adv.nil b14)
        have hsh_ := b14.same _ _ hsh_
        have ac := ac.trans b14
        have al_ := alloc_adv al_ b14 (by simp)
        have hs_ := hs_.same b14
        walk_at "rd"
        refine rd_cat hsh_ upd_same (by simp [sizeLine_eq]; omega) (fun p15 n15 => ?_)
        have b15 := Adv.new (M := []) (o := .lst (rs ++ [.ref p13])) n15
        have f15 : p15 ∉ M := fun z => al_ _ z n15
        have X_ := X_.adv (Adv.nil b15)
        have P1 := P1.adv (Adv.nil b15)
        have R2 := R2.adv (Adv.nil b15)
        have P2 := P2.adv (Adv.nil b15)
        have R3 := R3.adv (Adv.nil b15)
        have P3 := P3.adv (Adv.nil b15)
        have R4 := R4.adv (Adv.nil b15)
        have P4 := P4.adv (Adv.nil b15)
        have P5 := P5.adv (Adv.nil b15)
        have R6 := R6.adv (Adv.nil b15)
        have hsh_ := b15.same _ _ hsh_
        have ac := ac.trans b15
        have al_ := alloc_adv al_ b15 (by simp)
        have hs_ := hs_.same b15
        have P6 := nw_lst (X_.app R6) n15 f15 (by simp; omega)
        walk_at "rd"
        refine ⟨by show 6 ≤ sizeLine; decide, fun p16 n16 => ?_⟩
        have b16 := Adv.new (M := []) (o := .tup [.ref p1, .ref p4, .ref p7, .ref p10, .ref p12, .ref p15]) n16
        have f16 : p16 ∉ M := fun z => al_ _ z n16
        have ne_ : p16 ≠ s := fun z => hs_.here (by rw [← z]; exact n16)
        have X_ := X_.adv (Adv.nil b16)
        have P1 := P1.adv (Adv.nil b16)
        have R2 := R2.adv (Adv.nil b16)
        have P2 := P2.adv (Adv.nil b16)
        have R3 := R3.adv (Adv.nil b16)
        have P3 := P3.adv (Adv.nil b16)
        have R4 := R4.adv (Adv.nil b16)
        have P4 := P4.adv (Adv.nil b16)
        have P5 := P5.adv (Adv.nil b16)
        have R6 := R6.adv (Adv.nil b16)
        have P6 := P6.adv (Adv.nil b16)
        have hsh_ := b16.same _ _ hsh_
        have ac := ac.trans b16
        have al_ := alloc_adv al_ b16 (by simp)
        have hs_ := hs_.same b16
        refine ⟨s, p16, _, M, rfl, hs_, .inr upd_same, ne_, by simp, by simp, fun x H5 hx hs5 a5 => ?_⟩
        have px : PartD M H5 x := by
          simp at hx
          rcases hx with rfl | rfl | rfl | rfl | rfl | rfl
          · exact P1.adv (a5.more mM)
          · exact P2.adv (a5.more mM)
          · exact P3.adv (a5.more mM)
          · exact P4.adv (a5.more mM)
          · exact P5.adv (a5.more mM)
          · exact P6.adv (a5.more mM)
        have c15 : Adv [s] H1 H5 := (Adv.nil ac).trans a5
        have a15 : Adv M H1 H5 := c15.more mM
        have al5 := alloc_adv al1 c15 (by simpa using hs5.here)
        walk_at "rd"
        refine ⟨by show 4 ≤ sizeLine; decide, fun p np => ?_⟩
        have bp := Adv.new (M := []) (o := .tup [x, .ref em, .ref lt, .ref rt]) np
        have a1p : Adv M H1 (upd H5 p (.tup [x, .ref em, .ref lt, .ref rt])) := a15.trans (Adv.nil bp)
        exact q _ _ ((px.adv (Adv.nil bp)).who (pE a1p) (pL a1p) (pR a1p) upd_same (fun z => al5 _ z np)) (hs5.same bp) ((a1.trans c15).trans (Adv.nil bp))
      · walk_at "rd"
        refine iteB (fun e => ?_) (fun e => ?_)
        · walk_at "rd"
          refine ⟨by show 1 ≤ sizeLine; decide, fun p1 n1 => ?_⟩
          have b1 := Adv.new (M := []) (o := .tup [.int 0]) n1
          walk_at "rd"
          refine ⟨Nat.zero_le _, fun p2 n2 => ?_⟩
          have b2 := Adv.new (M := []) (o := .lst []) n2
          walk_at "rd"
          refine ⟨by show 1 ≤ sizeLine; decide, fun p3 n3 => ?_⟩
          have b3 := Adv.new (M := []) (o := .tup [.int (rs.length : Nat)]) n3
          walk_at "rd"
          refine ⟨Nat.zero_le _, fun p4 n4 => ?_⟩
          have b4 := Adv.new (M := []) (o := .tup []) n4
          walk_at "rd"
          refine ⟨by show 1 ≤ sizeLine; decide, fun p5 n5 => ?_⟩
          have b5 := Adv.new (M := []) (o := .tup [.ref p4]) n5
          walk_at "rd"
          refine ⟨by show 5 ≤ sizeLine; decide, fun p6 n6 => ?_⟩
          have b6 := Adv.new (M := []) (o := .tup [.ref p1, .non, .ref p2, .ref p3, .ref p5]) n6
          have c6 := ((((b1.trans b2).trans b3).trans b4).trans b5).trans b6
          have fr : ∀ {p : Addr}, H1 p = none → p ∉ M := fun h z => al1 _ z h
          refine ⟨s, p6, _, M, rfl, hs1.same c6, .inr upd_same, fun z => (hs1.same ((((b1.trans b2).trans b3).trans b4).trans b5)).here (by rw [← z]; exact n6), by simp, by simp, fun x H5 hx hs5 a5 => ?_⟩
          have d5 : Adv M _ H5 := a5.more mM
          have a15 : Adv M H1 H5 := (Adv.nil c6).trans d5
          have px : PartD M H5 x := by
            have f2 := b1.free (by simp) n2
            have f3 := (b1.trans b2).free (by simp) n3
            have f4 := ((b1.trans b2).trans b3).free (by simp) n4
            have f5 := (((b1.trans b2).trans b3).trans b4).free (by simp) n5
            have e4 : Is M H5 (.tuple []) (.ref p4) := Is.tp (.inl ⟨fr f4, d5 _ _ (fr f4) ((b5.trans b6).same _ _ upd_same)⟩) .nil
            simp at hx
            rcases hx with rfl | rfl | rfl | rfl | rfl
            · exact (FlDs.sc (xs := [.int 0]) rfl).tup (.inl ⟨fr n1, d5 _ _ (fr n1) (((((b2.trans b3).trans b4).trans b5).trans b6).same _ _ upd_same)⟩) (by simp)
            · exact PartD.sc rfl
            · exact FlDs.nil.lst (d5 _ _ (fr f2) ((((b3.trans b4).trans b5).trans b6).same _ _ upd_same)) (fr f2) (by simp)
            · exact (FlDs.sc (xs := [.int (rs.length : Nat)]) rfl).tup (.inl ⟨fr f3, d5 _ _ (fr f3) (((b4.trans b5).trans b6).same _ _ upd_same)⟩) (by simp)
            · exact (FlDs.one e4 (by rw [sz_tup, szL_nil]; decide) (by rw [dep_tup, depL_nil]; decide)).tup (.inl ⟨fr f5, d5 _ _ (fr f5) (b6.same _ _ upd_same)⟩) (by simp)
          walk_at "rd"
          refine ⟨by show 4 ≤ sizeLine; decide, fun p np => ?_⟩
          have bp := Adv.new (M := []) (o := .tup [.ref sh, x, .ref lt, .ref rt]) np
          have a1p : Adv M H1 (upd H5 p (.tup [.ref sh, x, .ref lt, .ref rt])) := a15.trans (Adv.nil bp)
          have pM : p ∉ M := fun z => (alloc_adv al1 ((Adv.nil c6).trans a5) (by simpa using hs5.here)) p z np
          exact q _ _ ((pS a1p).who (px.adv (Adv.nil bp)) (pL a1p) (pR a1p) upd_same pM) (hs5.same bp) ((a1.trans ((Adv.nil c6).trans a5)).trans (Adv.nil bp))
        · have lt_ := lt1
          have ac := Adv.refl [] H1
          have al_ := al1
          have hs_ := hs1
          have slt1 := lt_.sq A.W
          walk_at "rd"
          intro p1 n1
          have b1 := Adv.new (M := []) (o := .lst (nVl le)) n1
          have f1 : p1 ∉ M := fun z => al_ _ z n1
          have lt_ := lt_.adv (Adv.nil b1)
          have ac := ac.trans b1
          have al_ := alloc_adv al_ b1 (by simp)
          have hs_ := hs_.same b1
          have P1 := nw_lst (FlDs.nV le) n1 f1 (by rw [nVl_len]; omega)
          walk_at "rd"
          refine ⟨by show 1 ≤ sizeLine; decide, fun p2 n2 => ?_⟩
          have b2 := Adv.new (M := []) (o := .tup [.int (rs.length : Nat)]) n2
          have f2 : p2 ∉ M := fun z => al_ _ z n2
          have P1 := P1.adv (Adv.nil b2)
          have lt_ := lt_.adv (Adv.nil b2)
          have ac := ac.trans b2
          have al_ := alloc_adv al_ b2 (by simp)
          have hs_ := hs_.same b2
          have T2 := nw_tp (vs := [.int (rs.length : Nat)]) n2 f2
          refine go_catA A.W lt_ T2 al_ (by rw [nVl_len, sizeLine_eq]; simp; omega) (fun c2 h2 hc2 g2 => ?_)
          have P1 := P1.adv (Adv.nil g2)
          have lt_ := lt_.adv (Adv.nil g2)
          have ac := ac.trans g2
          have al_ := alloc_adv al_ g2 (by simp)
          have hs_ := hs_.same g2
          have P2 := ((FlDs.nV le).app (FlDs.sc (xs := [.int (rs.length : Nat)]) rfl)).tup hc2 (by rw [List.length_append, nVl_len]; simp; omega)
          walk_at "rd"
          refine ⟨by show 2 ≤ sizeLine; decide, fun p3 n3 => ?_⟩
          have b3 := Adv.new (M := []) (o := .tup [.int 1, .int 0]) n3
          have f3 : p3 ∉ M := fun z => al_ _ z n3
          have P1 := P1.adv (Adv.nil b3)
          have P2 := P2.adv (Adv.nil b3)
          have lt_ := lt_.adv (Adv.nil b3)
          have ac := ac.trans b3
          have al_ := alloc_adv al_ b3 (by simp)
          have hs_ := hs_.same b3
          have P3 := nw_tup (FlDs.sc (xs := [.int 1, .int 0]) rfl) n3 f3 (by simp)
          walk_at "rd"
          refine ⟨by show 2 ≤ sizeLine; decide, fun p4 n4 => ?_⟩
          have b4 := Adv.new (M := []) (o := .tup [.int 0, .int 0]) n4
          have f4 : p4 ∉ M := fun z => al_ _ z n4
          have P1 := P1.adv (Adv.nil b4)
          have P2 := P2.adv (Adv.nil b4)
          have P3 := P3.adv (Adv.nil b4)
          have lt_ := lt_.adv (Adv.nil b4)
          have ac := ac.trans b4
          have al_ := alloc_adv al_ b4 (by simp)
          have hs_ := hs_.same b4
          have P4 := nw_tup (FlDs.sc (xs := [.int 0, .int 0]) rfl) n4 f4 (by simp)
          walk_at "rd"
          refine ⟨by show 1 ≤ sizeLine; decide, fun p5 n5 => ?_⟩
          have b5 := Adv.new (M := []) (o := .tup [.bl true]) n5
          have f5 : p5 ∉ M := fun z => al_ _ z n5
          have P1 := P1.adv (Adv.nil b5)
          have P2 := P2.adv (Adv.nil b5)
          have P3 := P3.adv (Adv.nil b5)
          have P4 := P4.adv (Adv.nil b5)
          have lt_ := lt_.adv (Adv.nil b5)
          have ac := ac.trans b5
          have al_ := alloc_adv al_ b5 (by simp)
          have hs_ := hs_.same b5
          have P5 := nw_tup (FlDs.sc (xs := [.bl true]) rfl) n5 f5 (by simp)
          walk_at "rd"
          refine ⟨by show 1 ≤ sizeLine; decide, fun p6 n6 => ?_⟩
          have b6 := Adv.new (M := []) (o := .tup [.int (-1)]) n6
          have f6 : p6 ∉ M := fun z => al_ _ z n6
          have P1 := P1.adv (Adv.nil b6)
          have P2 := P2.adv (Adv.nil b6)
          have P3 := P3.adv (Adv.nil b6)
          have P4 := P4.adv (Adv.nil b6)
          have P5 := P5.adv (Adv.nil b6)
          have lt_ := lt_.adv (Adv.nil b6)
          have ac := ac.trans b6
          have al_ := alloc_adv al_ b6 (by simp)
          have hs_ := hs_.same b6
          have P6 := nw_tup (FlDs.sc (xs := [.int (-1)]) rfl) n6 f6 (by simp)
          walk_at "rd"
          refine go_catA A.W lt_ lt_ al_ (by rw [nVl_len, sizeLine_eq]; omega) (fun c7 h7 hc7 g7 => ?_)
          have P1 := P1.adv (Adv.nil g7)
          have P2 := P2.adv (Adv.nil g7)
          have P3 := P3.adv (Adv.nil g7)
          have P4 := P4.adv (Adv.nil g7)
          have P5 := P5.adv (Adv.nil g7)
          have P6 := P6.adv (Adv.nil g7)
          have lt_ := lt_.adv (Adv.nil g7)
          have ac := ac.trans g7
          have al_ := alloc_adv al_ g7 (by simp)
          have hs_ := hs_.same g7
          have P7 := ((FlDs.nV le).app (FlDs.nV le)).tup hc7 (by rw [List.length_append, nVl_len]; omega)
          walk_at "rd"
          refine ⟨by show 1 ≤ sizeLine; decide, fun p7 n7 => ?_⟩
          have b7 := Adv.new (M := []) (o := .tup [.non]) n7
          have f7 : p7 ∉ M := fun z => al_ _ z n7
          have P1 := P1.adv (Adv.nil b7)
          have P2 := P2.adv (Adv.nil b7)
          have P3 := P3.adv (Adv.nil b7)
          have P4 := P4.adv (Adv.nil b7)
          have P5 := P5.adv (Adv.nil b7)
          have P6 := P6.adv (Adv.nil b7)
          have P7 := P7.adv (Adv.nil b7)
          have lt_ := lt_.adv (Adv.nil b7)
          have ac := ac.trans b7
          have al_ := alloc_adv al_ b7 (by simp)
          have hs_ := hs_.same b7
          have P8 := nw_tup (FlDs.sc (xs := [.non]) rfl) n7 f7 (by simp)
          walk_at "rd"
          refine ⟨by show 1 ≤ sizeLine; decide, fun p8 n8 => ?_⟩
          have b8 := Adv.new (M := []) (o := .tup [.str "0"]) n8
          have f8 : p8 ∉ M := fun z => al_ _ z n8
          have P1 := P1.adv (Adv.nil b8)
          have P2 := P2.adv (Adv.nil b8)
          have P3 := P3.adv (Adv.nil b8)
          have P4 := P4.adv (Adv.nil b8)
          have P5 := P5.adv (Adv.nil b8)
          have P6 := P6.adv (Adv.nil b8)
          have P7 := P7.adv (Adv.nil b8)
          have P8 := P8.adv (Adv.nil b8)
          have lt_ := lt_.adv (Adv.nil b8)
          have ac := ac.trans b8
          have al_ := alloc_adv al_ b8 (by simp)
          have hs_ := hs_.same b8
          have P9 := nw_tup (FlDs.sc (xs := [.str "0"]) rfl) n8 f8 (by simp)
          walk_at "rd"
          refine ⟨by show 10 ≤ sizeLine; decide, fun p9 n9 => ?_⟩
          have b9 := Adv.new (M := []) (o := .tup [.ref p1, .ref c2, .ref p3, .ref p4, .ref p5, .ref p6, .non, .ref c7, .ref p7, .ref p8]) n9
          have f9 : p9 ∉ M := fun z => al_ _ z n9
          have ne_ : p9 ≠ s := fun z => hs_.here (by rw [← z]; exact n9)
          have P1 := P1.adv (Adv.nil b9)
          have P2 := P2.adv (Adv.nil b9)
          have P3 := P3.adv (Adv.nil b9)
          have P4 := P4.adv (Adv.nil b9)
          have P5 := P5.adv (Adv.nil b9)
          have P6 := P6.adv (Adv.nil b9)
          have P7 := P7.adv (Adv.nil b9)
          have P8 := P8.adv (Adv.nil b9)
          have P9 := P9.adv (Adv.nil b9)
          have lt_ := lt_.adv (Adv.nil b9)
          have ac := ac.trans b9
          have al_ := alloc_adv al_ b9 (by simp)
          have hs_ := hs_.same b9
          refine ⟨s, p9, _, M, rfl, hs_, .inr upd_same, ne_, by simp, by simp, fun x H5 hx hs5 a5 => ?_⟩
          have px : PartD M H5 x := by
            simp at hx
            rcases hx with rfl | rfl | rfl | rfl | rfl | rfl | rfl | rfl | rfl | rfl
            · exact P1.adv (a5.more mM)
            · exact P2.adv (a5.more mM)
            · exact P3.adv (a5.more mM)
            · exact P4.adv (a5.more mM)
            · exact P5.adv (a5.more mM)
            · exact P6.adv (a5.more mM)
            · exact PartD.sc rfl
            · exact P7.adv (a5.more mM)
            · exact P8.adv (a5.more mM)
            · exact P9.adv (a5.more mM)
          have c15 : Adv [s] H1 H5 := (Adv.nil ac).trans a5
          have a15 : Adv M H1 H5 := c15.more mM
          have al5 := alloc_adv al1 c15 (by simpa using hs5.here)
          walk_at "rd"
          refine iteB (fun e => ?_) (fun e => ?_)
          · walk_at "rd"
            refine ⟨by show 4 ≤ sizeLine; decide, fun p np => ?_⟩
            have bp := Adv.new (M := []) (o := .tup [.ref sh, .ref em, x, .ref rt]) np
            have a1p : Adv M H1 (upd H5 p (.tup [.ref sh, .ref em, x, .ref rt])) := a15.trans (Adv.nil bp)
            exact q _ _ ((pS a1p).who (pE a1p) (px.adv (Adv.nil bp)) (pR a1p) upd_same (fun z => al5 _ z np)) (hs5.same bp) ((a1.trans c15).trans (Adv.nil bp))
          · walk_at "rd"
            refine ⟨by show 4 ≤ sizeLine; decide, fun p np => ?_⟩
            have bp := Adv.new (M := []) (o := .tup [.ref sh, .ref em, .ref lt, x]) np
            have a1p : Adv M H1 (upd H5 p (.tup [.ref sh, .ref em, .ref lt, x])) := a15.trans (Adv.nil bp)
            exact q _ _ ((pS a1p).who (pE a1p) (pL a1p) (px.adv (Adv.nil bp)) upd_same (fun z => al5 _ z np)) (hs5.same bp) ((a1.trans c15).trans (Adv.nil bp))
end
end K60

set_option Elab.async false
set_option linter.all false
set_option maxRecDepth 100000
set_option maxHeartbeats 400000
namespace K60
open PySem PySem.Spec PyProof.Rows L2 LL
open C8 (pss_cut)
local macro_rules | `(tactic| walk_at "ne") => `(tactic| first | assumption | (apply Ne.symm; assumption) | exact ne_of_none (by walk_at "hp") (by assumption) | exact (ne_of_none (by walk_at "hp") (by assumption)).symm)
local macro_rules | `(tactic| walk_at "nm") => `(tactic| first | assumption | exact notin0 | exact notin1 (by walk_at "ne") | exact notin2 (by walk_at "ne") (by walk_at "ne"))
local macro_rules | `(tactic| walk_at "hp") => `(tactic| first | assumption | exact upd_same | (refine Eq.trans (upd_ne ?ne) ?hh; (case hh => walk_at "hp"); (case ne => walk_at "ne")) | (refine Adv.get' (by assumption) ?hh ?nn; (case hh => walk_at "hp"); (case nn => walk_at "nm")))
local macro_rules | `(tactic| walk_at "tp") => `(tactic| first | assumption | exact Tp.adv (by walk_at "tp") (by assumption) | exact Tp.adv (by walk_at "tp") (Adv.nil (by assumption)))
local macro_rules | `(tactic| walk_at "sq") => `(tactic| first | assumption | exact Tp.sq (by assumption) (by walk_at "tp") | exact SqT.of (by walk_at "hp"))
local macro_rules | `(tactic| walk_at "at") => `(tactic| first | exact atI_nat (j := 0) rfl | exact atI_nat (j := 1) rfl | exact atI_nat (j := 2) rfl | exact atI_nat (j := 3) rfl | exact atI_nat (by assumption) | (rw [Int.zero_add]; exact atI_nat (by assumption)))
local macro_rules | `(tactic| walk_at "bb") => `(tactic| first | assumption | decide | exact rfl)
local macro_rules | `(tactic| walk_at "ci") => `(tactic| first | omega | (dsimp only; omega) | (unfold CDiv; omega) | (unfold CMul; omega))
local macro_rules | `(tactic| walk_at "rd1") => `(tactic| first
  | with_reducible refine rd_c ?_
  | ((with_reducible refine' rd_var ?rh ?_); (case rh => exact rfl))
  | with_reducible refine rd_op ?_
  | with_reducible refine rd_seq ?_
  | with_reducible refine rd_asg ?_
  | with_reducible refine rd_gname ?_
  | with_reducible refine rd_ifS ?_
  | with_reducible refine rd_test ?_
  | with_reducible refine rd_tB ?_
  | with_reducible refine rd_blP ?_
  | ((with_reducible refine' iteY ?rh ?_); (case rh => walk_at "bb"))
  | ((with_reducible refine' iteN ?rh ?_); (case rh => walk_at "bb"))
  | with_reducible refine rd_ret ?_
  | with_reducible refine rd_nx ?_
  | ((with_reducible refine' rd_eq ?rh ?_); (case rh => exact rfl))
  | ((with_reducible refine' rd_ne ?rh ?_); (case rh => exact rfl))
  | with_reducible refine rd_add ?_
  | with_reducible refine rd_sub ?_
  | with_reducible refine rd_i0 ?_
  | with_reducible refine rd_and ?_
  | with_reducible refine rd_or ?_
  | with_reducible refine rd_not ?_
  | with_reducible refine rd_andV ?_
  | with_reducible refine rd_orV ?_
  | with_reducible refine rd_notV ?_
  | with_reducible refine rd_ifE ?_
  | with_reducible refine rd_isN ?_
  | with_reducible refine rd_notN ?_
  | with_reducible refine rd_cons ?_
  | with_reducible refine rd_nil ?_
  | with_reducible refine rd_tup ?_
  | with_reducible refine rd_lst ?_
  | with_reducible refine rd_call ?_
  | with_reducible refine rd_cb ?_
  | with_reducible refine rd_meth ?_
  | with_reducible refine rd_callS ?_
  | with_reducible refine rd_make ?_
  | with_reducible refine rd_rfl ?_
  | with_reducible refine rd_fld ?_
  | with_reducible refine rd_drop ?_
  | with_reducible refine rd_gsub ?_
  | with_reducible refine rd_gcons ?_
  | with_reducible refine rd_gnil ?_
  | with_reducible refine rd_par ?_
  | with_reducible refine rd_two ?_
  | with_reducible refine rd_par3 ?_
  | with_reducible refine rd_three ?_
  | with_reducible refine rd_int1 ?_
  | ((with_reducible refine' rd_i ?rh ?_); (case rh => walk_at "ci"))
  | with_reducible refine rd_part ?_
  | with_reducible refine rd_nopart ?_
  | with_reducible refine rd_int ?_
  | with_reducible refine rd_sl ?_
  | with_reducible refine rd_bm ?_
  | with_reducible refine rd_bm0 ?_
  | with_reducible refine rd_dgetT ?_
  | with_reducible refine rd_din ?_
  | with_reducible refine rd_dnin ?_
  | with_reducible refine rd_un ?_
  | ((with_reducible refine' rd_ixL ?rh ?re ?_); (case rh => walk_at "hp"); (case re => walk_at "at"))
  | ((with_reducible refine' rd_ixT ?rh ?re ?_); (case rh => walk_at "sq"); (case re => walk_at "at"))
  | ((with_reducible refine' rd_lenT ?rh ?_); (case rh => walk_at "sq"))
  | ((with_reducible refine' rd_tyL ?rh ?_); (case rh => walk_at "hp"))
  | ((with_reducible refine' rd_len ?rh ?_); (case rh => walk_at "hp"))
  | with_reducible refine rd_u ?_
  | ((with_reducible refine' rd_slL ?rh ?_); (case rh => walk_at "hp"))
  | with_reducible refine rd_for ?_
  | with_reducible refine rd_rng1 ?_
  | with_reducible refine rd_rng2 ?_
  | with_reducible refine rd_ints1 ?_
  | with_reducible refine rd_ints2 ?_
  | with_reducible refine rd_retN ?_)
local macro_rules | `(tactic| walk_at "rd") => `(tactic| repeat walk_at "rd1")
section
variable [KW]
variable {P : Program} {w : World} {K : PySem.W.Frag} {mg : Str → Option Value} {base : Heap}
theorem ClV.adv {M : List Addr} {H H' : Hp} {cl : Addr} (x : ClV M H cl) (a : Adv M H H') : ClV M H' cl := by
  obtain ⟨sh, em, lt, rt, rs, le, ri, h1, h2, h3, h4, h5, h6, h7, h8, h9, z1, z2⟩ := x.ex
  exact ⟨sh, em, lt, rt, rs, le, ri, h1, a _ _ h1 h2, h3, a _ _ h3 h4, h5.adv a, h6, h7.adv a, h8.adv a, h9.adv a, z1, z2⟩
theorem ClV.who {M : List Addr} {H : Hp} {cl : Addr} (x : ClV M H cl) : WhoD M H (.ref cl) := by
  obtain ⟨sh, em, lt, rt, rs, le, ri, h1, h2, h3, h4, ⟨kss, hk, zk⟩, h6, h7, h8, h9, z1, z2⟩ := x.ex
  have hl := hk.len
  have w1 := szL_le (k := 4) (ds := kss.map kT) (fun d hd => by
    obtain ⟨ks, hk, rfl⟩ := List.mem_map.mp hd
    have := zk ks hk
    unfold kT
    rw [sz_tup, ks_sz]
    omega)
  have w2 := depL_le (k := 1) (ds := kss.map kT) (fun d hd => by
    obtain ⟨ks, hk, rfl⟩ := List.mem_map.mp hd
    unfold kT
    rw [dep_tup, ks_dep]
    omega)
  refine ⟨.tuple [.list (kss.map kT), .tuple [], .tuple (nD le), .tuple (nD ri)], Is.tup h2 h1 (.cons (Is.lst h4 h3 hk) (.cons (Is.tp h7 .nil) (.cons (Is.tp h8 (nD_is _)) (.cons (Is.tp h9 (nD_is _)) .nil)))), ?_, ?_, fun a b c e he => ?_⟩
  · rw [sz_tup, szL_cons, szL_cons, szL_cons, szL_cons, szL_nil, sz_lst, sz_tup, sz_tup, sz_tup, szL_nil, nD_sz, nD_sz]
    omega
  · rw [dep_tup, depL_cons, depL_cons, depL_cons, depL_cons, depL_nil, dep_lst, dep_tup, dep_tup, dep_tup, depL_nil, nD_dep, nD_dep]
    omega
  · injection he with he
    injection he with _ he
    injection he with _ he
    injection he with x3 he
    injection he with x4 _
    subst x3 x4
    simp [lenT, LL.nD]
    omega
theorem claimW_ne {d x : PyData} : claimW d ≠ some (("told" : Str), x) := fun h => by
  have no : ∀ {c : Str} {y : PyData}, c ≠ "told" → some (c, y) = some (("told" : Str), x) → False := fun hc z => by cases z; exact hc rfl
  unfold claimW at h
  split at h
  · split at h
    · exact no (by decide) h
    · split at h
      · exact no (by decide) h
      · split at h
        · exact no (by decide) h
        · split at h
          · exact no (by decide) h
          · cases h
  · exact no (by decide) h
/-! ### law -/
def spLaw (K : PySem.W.Frag) : Sp := fun vs H Q _ => ∃ (a : Addr) (ns : List Int), vs = [.ref a] ∧ SqL K H a (ns.map V.int) ∧ ns.length ≤ 63 ∧ ∀ H', Q (.bl true) H'
theorem pick7 {x : V} (h : x ∈ ([.str "negative", .str "denied", .str "boxed", .str "doubled", .str "modal k", .str "modal s4", .str "modal gl"] : List V)) : ∃ r : R7, x = .str r.str := by
  simp at h
  rcases h with h | h | h | h | h | h | h
  · exact ⟨.neg, h⟩
  · exact ⟨.den, h⟩
  · exact ⟨.box, h⟩
  · exact ⟨.dou, h⟩
  · exact ⟨.mk, h⟩
  · exact ⟨.ms, h⟩
  · exact ⟨.mg, h⟩
theorem ok_law (A : All K mg w) (G : Grw K mg) (R : Rds A) (Z : Exs K mg) (Z1 : Er_BadSheet Z) (Z2 : Er_BadValue Z) (Z3 : Er_BadClaim Z) : FnOk P w K mg base CX0 18 A.law.f A.law.fd ["script"] (spLaw K) := by
  refine A.law.F.ok sc_law (fun vs H Q E h => ?_) (fun cdv Ar outer s0 H vs Q E hr h => ?_)
  · obtain ⟨a, ns, rfl, _⟩ := h
    rfl
  · obtain ⟨a, ns, rfl, hS, hl, q⟩ := h
    refine ⟨_, (pss_cons (ps_set (i := 1) sc_law.nd rfl (Or.inl rfl) (pe_call (ok_law_stream A) (hr.mono (by omega)) rfl A.law_stream.m A.law_stream.F.kp A.law_stream.b .nil pass0 (pa_cons (pv 0) pa_nil)))
  (pss_cons (ps_set (i := 2) sc_law.nd rfl (Or.inl rfl) (pe_call (ok_law_pick A) (hr.mono (by omega)) rfl A.law_pick.m A.law_pick.F.kp A.law_pick.b .nil pass0 (pa_cons (pv 1) (pa_cons (pe_tup (pa_cons pe_str (pa_cons pe_str (pa_cons pe_str (pa_cons pe_str (pa_cons pe_str (pa_cons pe_str (pa_cons pe_str pa_nil)))))))) pa_nil))))
  (pss_cons (ps_set (i := 3) sc_law.nd rfl (Or.inl rfl) (pe_call (ok_law_claim A) (hr.mono (by omega)) rfl A.law_claim.m A.law_claim.F.kp A.law_claim.b .nil pass0 (pa_cons (pv 1) pa_nil)))
  (pss_cons (ps_if (pt_not (pt_val (pe_call (ok_law_same A) (hr.mono (by omega)) rfl A.law_same.m A.law_same.F.kp A.law_same.b .nil pass0 (pa_cons (pe_call (ok_law_asked_logics A Z Z2) (hr.mono (by omega)) rfl A.law_asked_logics.m A.law_asked_logics.F.kp A.law_asked_logics.b .nil pass0 (pa_cons (pv 2) pa_nil)) (pa_cons (pe_tup (pa_cons pe_str (pa_cons (pe_call (ok_law_logics A) (hr.mono (by omega)) rfl A.law_logics.m A.law_logics.F.kp A.law_logics.b .nil pass0 (pa_cons (pv 2) pa_nil)) pa_nil))) pa_nil)))))
    (pss_one (ps_ret pe_bl))
    pss_nil)
  (pss_cons (ps_set (i := 4) sc_law.nd rfl (Or.inl rfl) (pe_call (ok_law_due A) (hr.mono (by omega)) rfl A.law_due.m A.law_due.F.kp A.law_due.b .nil pass0 (pa_cons (pv 2) (pa_cons (pv 3) pa_nil))))
  (pss_cons (ps_set (i := 5) sc_law.nd rfl (Or.inl rfl) (pe_call (ok_law_asked A G R Z Z1 Z2 Z3) (hr.mono (by omega)) rfl A.law_asked.m A.law_asked.F.kp A.law_asked.b .nil pass0 (pa_cons (pv 2) (pa_cons (pv 3) pa_nil))))
  (pss_cons (ps_if (pt_not (pt_val (pe_call (ok_law_same A) (hr.mono (by omega)) rfl A.law_same.m A.law_same.F.kp A.law_same.b .nil pass0 (pa_cons (pv 5) (pa_cons (pv 4) pa_nil)))))
    (pss_one (ps_ret pe_bl))
    pss_nil)
  (pss_cut (ps_if (pt_cmpR op_eq (pe_ix ix_tup (pv 4) pe_int (fun _ _ => rfl)) pe_str (nomark _))
    (pss_cons (ps_set (i := 6) sc_law.nd rfl (Or.inl rfl) (pe_ix ix_tup (pe_ix ix_tup (pv 5) pe_int (fun _ _ => rfl)) pe_int (fun _ _ => rfl)))
  (pss_cons (ps_expr (pe_bm PySem.F.plainAttrs_list PySem.F.slot_list_append PySem.F.type_list_append mt_append (pv 6) (pa_cons (pe_tup (pa_cons pe_str (pa_cons pe_int pa_nil))) pa_nil)))
  (pss_one (ps_if (pt_not (pt_val (pe_call (ok_law_same A) (hr.mono (by omega)) rfl A.law_same.m A.law_same.F.kp A.law_same.b .nil pass0 (pa_cons (pe_call (ok_law_asked A G R Z Z1 Z2 Z3) (hr.mono (by omega)) rfl A.law_asked.m A.law_asked.F.kp A.law_asked.b .nil pass0 (pa_cons (pv 2) (pa_cons (pv 3) pa_nil))) (pa_cons (pv 4) pa_nil)))))
    (pss_one (ps_ret pe_bl))
    pss_nil))))
    pss_nil)
  (pss_cons (ps_set (i := 7) sc_law.nd rfl (Or.inl rfl) (pe_call (ok_law_pick A) (hr.mono (by omega)) rfl A.law_pick.m A.law_pick.F.kp A.law_pick.b .nil pass0 (pa_cons (pv 1) (pa_cons (pe_tup (pa_cons pe_str (pa_cons pe_str (pa_cons pe_str (pa_cons pe_str (pa_cons pe_str (pa_cons pe_str (pa_cons pe_non (pa_cons pe_int (pa_cons (pe_tup (pa_cons pe_str pa_nil)) (pa_cons (pe_lst (pa_cons pe_str pa_nil)) (pa_cons pe_str (pa_cons pe_str (pa_cons pe_str (pa_cons pe_str pa_nil))))))))))))))) pa_nil))))
  (pss_cons (ps_if (pt_not (pt_val (pe_call (ok_law_same A) (hr.mono (by omega)) rfl A.law_same.m A.law_same.F.kp A.law_same.b .nil pass0 (pa_cons (pe_call (ok_law_asked_logics A Z Z2) (hr.mono (by omega)) rfl A.law_asked_logics.m A.law_asked_logics.F.kp A.law_asked_logics.b .nil pass0 (pa_cons (pv 7) pa_nil)) (pa_cons (pe_tup (pa_cons pe_str (pa_cons pe_str pa_nil))) pa_nil)))))
    (pss_one (ps_ret pe_bl))
    pss_nil)
  (pss_cut (ps_if (pt_cmpR op_lt (pe_callB call_len_seq (by rfl) A.T.len PySem.boot_len (pa_cons (pe_ix ix_tup (pv 3) pe_int (fun _ _ => rfl)) pa_nil)) pe_int (nomark _))
    (pss_cons (ps_set (i := 8) sc_law.nd rfl (Or.inl rfl) (pe_call (ok_law_bent A) (hr.mono (by omega)) rfl A.law_bent.m A.law_bent.F.kp A.law_bent.b .nil pass0 (pa_cons (pv 1) (pa_cons (pv 3) pa_nil))))
  (pss_cons (ps_for PassesOwn.never rfl (pi_tup (pe_tup (pa_cons (pv 7) (pa_cons (pv 2) pa_nil)))) (pg_name (i := 9) sc_law.nd rfl (Or.inl rfl))
    (pss_one (ps_if (pt_not (pt_val (pe_call (ok_law_same A) (hr.mono (by omega)) rfl A.law_same.m A.law_same.F.kp A.law_same.b .nil pass0 (pa_cons (pe_call (ok_law_asked A G R Z Z1 Z2 Z3) (hr.mono (by omega)) rfl A.law_asked.m A.law_asked.F.kp A.law_asked.b .nil pass0 (pa_cons (pv 9) (pa_cons (pv 8) pa_nil))) (pa_cons (pe_call (ok_law_due A) (hr.mono (by omega)) rfl A.law_due.m A.law_due.F.kp A.law_due.b .nil pass0 (pa_cons (pv 9) (pa_cons (pv 8) pa_nil))) pa_nil)))))
    (pss_one (ps_ret pe_bl))
    pss_nil)))
  (pss_cons (ps_set (i := 10) sc_law.nd rfl (Or.inl rfl) (pe_call (ok_law_pick A) (hr.mono (by omega)) rfl A.law_pick.m A.law_pick.F.kp A.law_pick.b .nil pass0 (pa_cons (pv 1) (pa_cons (pe_tup (pa_cons pe_str (pa_cons pe_str (pa_cons pe_str (pa_cons pe_str (pa_cons pe_str (pa_cons pe_str (pa_cons pe_str pa_nil)))))))) pa_nil))))
  (pss_one (ps_if (pt_not (pt_val (pe_call (ok_law_same A) (hr.mono (by omega)) rfl A.law_same.m A.law_same.F.kp A.law_same.b .nil pass0 (pa_cons (pe_call (ok_law_asked A G R Z Z1 Z2 Z3) (hr.mono (by omega)) rfl A.law_asked.m A.law_asked.F.kp A.law_asked.b .nil pass0 (pa_cons (pv 10) (pa_cons (pv 3) pa_nil))) (pa_cons (pe_call (ok_law_due A) (hr.mono (by omega)) rfl A.law_due.m A.law_due.F.kp A.law_due.b .nil pass0 (pa_cons (pv 10) (pa_cons (pv 3) pa_nil))) pa_nil)))))
    (pss_one (ps_ret pe_bl))
    pss_nil)))))
    pss_nil)
  (pss_one (ps_ret (pe_call (ok_law_same A) (hr.mono (by omega)) rfl A.law_same.m A.law_same.F.kp A.law_same.b .nil pass0 (pa_cons (pe_call (ok_law_asked A G R Z Z1 Z2 Z3) (hr.mono (by omega)) rfl A.law_asked.m A.law_asked.F.kp A.law_asked.b .nil pass0 (pa_cons (pv 7) (pa_cons (pv 3) pa_nil))) (pa_cons (pe_tup (pa_cons pe_str (pa_cons pe_str pa_nil))) pa_nil)))))))))))))))), ?_⟩
    walk_at "rd"
    refine ⟨a, ns, rfl, hS, hl, fun s H1 ns1 hs1 a1 => ?_⟩
    walk_at "rd"
    refine ⟨by show 7 ≤ sizeLine; decide, fun p np => ?_⟩
    have bp := Adv.new (M := []) (o := .tup [.str "negative", .str "denied", .str "boxed", .str "doubled", .str "modal k", .str "modal s4", .str "modal gl"]) np
    have hss : StrAt [s] H1 s := by
      obtain ⟨l, ms, c, k, h1, h2, h3, h4, h5⟩ := hs1
      refine ⟨l, ms, c, k, h1, h2, h3, h4, fun z => ?_⟩
      have e : l = s := by simpa using z
      exact ne_of h2 h1 (ne_lst_ints).symm e
    refine ⟨s, p, _, [s], rfl, hss.same bp, .inr upd_same, fun z => hss.here (by rw [← z]; exact np), by simp, by simp, fun x H2 hx hs2 a2 => ?_⟩
    obtain ⟨r, rfl⟩ := pick7 hx
    have alS : ∀ {H' : Hp}, StrAt [s] H' s → ∀ b ∈ [s], H' b ≠ none := fun h b hb => by rw [List.mem_singleton.mp hb]; exact h.here
    walk_at "rd"
    refine ⟨⟨[s], s, rfl, hs2, by simp, alS hs2, fun cl H3 hC hs3 a3 => ?_⟩⟩
    walk_at "rd"
    have hr7 : isR7 (.str r.str) = some r := r7_of r
    refine ⟨⟨[s], .str r.str, .str r.str, rfl, alS hs3, Is.str, ?_, fun r' hr' v1 H4 hv1 a4 => ?_⟩⟩
    · intro z
      rw [hr7] at z
      cases z
    cases (show some r = some r' from (r7_of r).symm.trans hr')
    have hs4 := hs3.same a4
    have C4 := hC.adv (Adv.nil a4)
    walk_at "rd"
    refine ⟨⟨[s], r, rfl, alS hs4, fun v2 H5 hv2 a5 => ?_⟩⟩
    have hs5 := hs4.same a5
    have C5 := C4.adv (Adv.nil a5)
    walk_at "rd"
    refine ⟨by show 2 ≤ sizeLine; decide, fun p2 np2 => ?_⟩
    have b2 := Adv.new (M := []) (o := .tup [.str "told", v2]) np2
    have i2 : Is [s] (upd H5 p2 (.tup [.str "told", v2])) (.tuple [.str "told", .tuple [.str r.lo, .str r.hi]]) (.ref p2) := Is.tup upd_same (not_mem_new (alS hs5) np2) (.cons .str (.cons (hv2.adv (Adv.nil b2)) .nil))
    refine ⟨v1, .ref p2, _, rfl, (hv1.adv (Adv.nil (a5.trans b2))).less (by simp), i2.less (by simp), by rw [sz_tup, szL_cons, szL_cons, szL_nil, sz_tup, szL_cons, szL_cons, szL_nil, sz1_str, sz1_str, sz1_str]; decide, fun H6 a6 => ?_⟩
    have hs6 := (hs5.same b2).same a6
    have C6 := (C5.adv (Adv.nil b2)).adv (Adv.nil a6)
    walk_at "rd"
    -- the due answer, and what is told
    have dsz : ∀ {d1 d2 e : PyData}, SmC d2 → DueC d1 d2 e → sz e ≤ 1000000 := fun sm hD => dueC_sz hD fun ns le ri he => by subst he; exact sm.cl
    obtain ⟨d, hd, dz, dd, dm⟩ := C6.who
    obtain ⟨e, hD⟩ := dueC_ex (.str r.str) d
    refine ⟨⟨[s], .str r.str, .ref cl, .str r.str, d, e, rfl, alS hs6, Is.str, hd, dz, dm, hD, fun dv H7 id7 a7 => ?_⟩⟩
    have hs7 := hs6.same a7
    have C7 := C6.adv (Adv.nil a7)
    have hd7 := hd.adv (Adv.nil a7)
    walk_at "rd"
    refine ⟨⟨[s], .str r.str, .ref cl, .str r.str, d, e, rfl, alS hs7, Is.str, hd7, dd, dz, dm, hD, fun tv H8 it8 a8 hT => ?_⟩⟩
    have hs8 := hs7.same a8
    have C8_ := C7.adv (Adv.nil a8)
    have hd8 := hd7.adv (Adv.nil a8)
    have id8 := id7.adv (Adv.nil a8)
    walk_at "rd"
    refine ⟨tv, dv, e, rfl, it8.less (by simp), id8.less (by simp), dsz dm hD, fun H9 a9 => ?_⟩
    have hs9 := hs8.same a9
    have C9 := C8_.adv (Adv.nil a9)
    have hd9 := hd8.adv (Adv.nil a9)
    have id9 := id8.adv (Adv.nil a9)
    walk_at "rd"
    refine ⟨fun σ' H' => ∃ y6, σ' = [some (.ref a), some (.ref s), some (.str r.str), some (.ref cl), some dv, some tv, y6, none, none, none, none] ∧ StrAt [s] H' s ∧ ClV [s] H' cl ∧ Is [s] H' d (.ref cl), ?_, ?_⟩
    · obtain ⟨tg, pl, rfl⟩ : ∃ (tg : Str) (pl : PyData), e = .tuple [.str tg, pl] := by cases hD <;> exact ⟨_, _, rfl⟩
      obtain ⟨td, w1, w2, rfl, htd, h1, h2⟩ := id9.pair
      cases h1.strE
      have sqd := htd.sq A.W
      walk_at "rd"
      refine iteB (fun eb => ?_) (fun eb => ?_)
      · have etg : tg = "told" := by
          have := of_decide_eq_true eb
          injection this
        subst etg
        obtain ⟨ns, le, ri, rfl⟩ : ∃ ns le ri, pl = clD ns le ri := by
          cases hD with
          | told r _ ns le ri => exact ⟨_, _, _, rfl⟩
          | wrong r _ c x h2 => exact absurd h2 (claimW_ne)
        obtain ⟨t1, t2, L, x, y, z, rs, rfl, ht1, ht2, hL, hlen, nL⟩ := hT ns le ri rfl
        have sq1 := SqT.of (K := K) (a9.same _ _ ht1)
        have sq2 := SqT.of (K := K) (a9.same _ _ ht2)
        have hL9 := a9.same _ _ hL
        have hlr : rs.length ≤ 1000000 := by
          have h1 := dsz dm hD
          unfold clD at h1
          rw [sz_tup, szL_cons, szL_cons, szL_nil, sz_tup, szL_cons, szL_cons, szL_cons, szL_cons, szL_nil, sz_lst] at h1
          have := szL_len (ns.map Nd.data)
          rw [List.length_map] at this
          omega
        have nM : L ∉ [s] := fun z => alS hs7 _ z nL
        walk_at "rd"
        refine ⟨by show 2 ≤ sizeLine; decide, fun p1 n1 => ?_⟩
        have b1 : Adv [] H9 (upd H9 p1 (.tup [.str "letter", .int 9])) := Adv.new n1
        walk_at "rd"
        refine rd_app (b1.same _ _ hL9) (by rw [sizeLine_eq]; omega) ?_
        have g2 : Adv [] H7 (upd (upd H9 p1 (.tup [.str "letter", .int 9])) L (.lst (rs ++ [.ref p1]))) := ((a8.trans a9).trans b1).mut nL
        have hs10 := hs7.same g2
        have C10 := C7.adv (Adv.nil g2)
        have hd10 := hd7.adv (Adv.nil g2)
        have id10 := id7.adv (Adv.nil g2)
        walk_at "rd"
        refine ⟨⟨[s], .str r.str, .ref cl, .str r.str, d, _, rfl, alS hs10, Is.str, hd10, dd, dz, dm, hD, fun tv2 H11 it11 a11 _ => ?_⟩⟩
        walk_at "rd"
        refine ⟨tv2, _, _, rfl, it11.less (by simp), (id10.adv (Adv.nil a11)).less (by simp), dsz dm hD, fun H12 a12 => ?_⟩
        walk_at "rd"
        exact ⟨_, rfl, (hs10.same a11).same a12, (C10.adv (Adv.nil a11)).adv (Adv.nil a12), (hd10.adv (Adv.nil a11)).adv (Adv.nil a12)⟩
      · walk_at "rd"
        exact ⟨_, rfl, hs9, C9, hd9⟩
    · rintro σ' H10 ⟨y6, rfl, hs10, C10, hd10⟩
      walk_at "rd"
      refine ⟨by show 1 ≤ sizeLine; decide, fun p1 n1 => ?_⟩
      have b1 := Adv.new (M := []) (o := .tup [.str "boxed"]) n1
      walk_at "rd"
      refine ⟨by show 1 ≤ sizeLine; decide, fun p2 n2 => ?_⟩
      have b2 := Adv.new (M := []) (o := .lst [.str "boxed"]) n2
      walk_at "rd"
      refine ⟨by show 14 ≤ sizeLine; decide, fun p3 n3 => ?_⟩
      have b3 := Adv.new (M := []) (o := .tup [.str "Boxed", .str "box", .str "modal", .str "modal  k", .str "modal K", .str "", .non, .int 0, .ref p1, .ref p2, .str "doubled ", .str "negativ", .str "modal classical", .str "plain"]) n3
      have al10 := alS hs10
      have b123 := (b1.trans b2).trans b3
      have i1 := ((Is.tup (upd_same (a := p1) (o := .tup [.str "boxed"])) (not_mem_new al10 n1) (.cons .str .nil) : Is [s] (upd H10 p1 (.tup [.str "boxed"])) (.tuple [.str "boxed"]) (.ref p1))).adv (Adv.nil (b2.trans b3))
      have i2 := ((Is.lst (upd_same (a := p2) (o := .lst [.str "boxed"])) (not_mem_new (alloc_adv al10 b1 (by simp)) n2) (.cons .str .nil) : Is [s] (upd _ p2 (.lst [.str "boxed"])) (.list [.str "boxed"]) (.ref p2))).adv (Adv.nil b3)
      refine ⟨s, p3, _, [s], rfl, hs10.same b123, .inr upd_same, fun z => (hs10.same (b1.trans b2)).here (by rw [← z]; exact n3), by simp, by simp, fun ov H11 hx hs11 a11 => ?_⟩
      obtain ⟨od, io, ro⟩ : ∃ od, Is [s] H11 od ov ∧ isR7 od = none := by
        simp at hx
        rcases hx with rfl | rfl | rfl | rfl | rfl | rfl | rfl | rfl | rfl | rfl | rfl | rfl | rfl | rfl
        · exact ⟨_, Is.str, by decide +kernel⟩
        · exact ⟨_, Is.str, by decide +kernel⟩
        · exact ⟨_, Is.str, by decide +kernel⟩
        · exact ⟨_, Is.str, by decide +kernel⟩
        · exact ⟨_, Is.str, by decide +kernel⟩
        · exact ⟨_, Is.str, by decide +kernel⟩
        · exact ⟨_, Is.non, rfl⟩
        · exact ⟨_, Is.int, rfl⟩
        · exact ⟨_, i1.adv a11, rfl⟩
        · exact ⟨_, i2.adv a11, rfl⟩
        · exact ⟨_, Is.str, by decide +kernel⟩
        · exact ⟨_, Is.str, by decide +kernel⟩
        · exact ⟨_, Is.str, by decide +kernel⟩
        · exact ⟨_, Is.str, by decide +kernel⟩
      have g11 : Adv [s] H10 H11 := (Adv.nil b123).trans a11
      have C11 := C10.adv g11
      have hd11 := hd10.adv g11
      walk_at "rd"
      refine ⟨⟨[s], ov, od, rfl, alS hs11, io, fun _ v1 H12 iv1 a12 => ?_, fun r' hr' => by rw [ro] at hr'; cases hr'⟩⟩
      walk_at "rd"
      refine ⟨by show 2 ≤ sizeLine; decide, fun p4 n4 => ?_⟩
      have b4 := Adv.new (M := []) (o := .tup [.str "BadValue", .str "reading"]) n4
      refine ⟨v1, .ref p4, _, rfl, (iv1.adv (Adv.nil b4)).less (by simp), Is.tup upd_same (by simp) (.cons .str (.cons .str .nil)), by rw [sz_tup, szL_cons, szL_cons, szL_nil, sz1_str, sz1_str]; decide, fun H13 a13 => ?_⟩
      have g13 := (a12.trans b4).trans a13
      have hs13 := hs11.same g13
      have hd13 := hd11.adv (Adv.nil g13)
      have io13 := io.adv (Adv.nil g13)
      obtain ⟨sh, em, lt, rt, rs, le, ri, c1, c2, c3, c4, c5, c6, c7, c8, c9, z1, z2⟩ := (C11.adv (Adv.nil g13)).ex
      have scl := SqT.of (K := K) c2
      walk_at "rd"
      refine ⟨fun σ' H' => ∃ y8 y9 y10, σ' = [some (.ref a), some (.ref s), some (.str r.str), some (.ref cl), some dv, some tv, y6, some ov, y8, y9, y10] ∧ StrAt [s] H' s ∧ Is [s] H' d (.ref cl) ∧ Is [s] H' od ov, ?_, ?_⟩
      · walk_at "rd"
        refine iteB (fun e4 => ?_) (fun e4 => ?_)
        · have h4 : rs.length ≤ 400 := by
            have := of_decide_eq_true e4
            omega
          walk_at "rd"
          refine ⟨⟨[s], s, cl, sh, em, lt, rt, rs, le, ri, rfl, hs13, by simp, alS hs13, c1, c2, c3, c4, c5, h4, c7, c8, c9, z1, z2, fun bv H14 hb hs14 a14 => ?_⟩⟩
          obtain ⟨bd, ib, bz, bdp, bsm⟩ := hb
          have hd14 := hd13.adv a14
          have io14 := io13.adv a14
          walk_at "rd"
          unfold iTup
          walk_at "rd"
          refine ⟨by show 2 ≤ sizeLine; decide, fun p5 n5 => ?_⟩
          have b5 := Adv.new (M := []) (o := .tup [ov, .str r.str]) n5
          have hp5 := upd_same (H := H14) (a := p5) (o := .tup [ov, .str r.str])
          generalize (upd H14 p5 (.tup [ov, .str r.str])) = H15 at b5 hp5
          have hs15 := hs14.same b5
          have hd15 := hd14.adv (Adv.nil b5)
          have io15 := io14.adv (Adv.nil b5)
          have ib15 := ib.adv (Adv.nil b5)
          refine ⟨p5, rfl, ⟨_, SqT.of hp5⟩, ?_⟩
          refine for_tup (a := p5) (xs := [ov, .str r.str]) (fun i σ' H' => ∃ y9, σ' = [some (.ref a), some (.ref s), some (.str r.str), some (.ref cl), some dv, some tv, y6, some ov, some bv, y9, none] ∧ Adv [] H15 H') ⟨_, rfl, Adv.refl _ _⟩ ?_ ?_ ?_
          · rintro i σ' H' hi ⟨y9, rfl, a'⟩
            exact SqT.of (a'.same _ _ hp5)
          · rintro i x σ' H' hx ⟨y9, rfl, a'⟩
            obtain ⟨xd, ix⟩ : ∃ xd, Is [s] H' xd x := by
              have hm := List.mem_of_getElem? hx
              simp at hm
              rcases hm with rfl | rfl
              · exact ⟨_, io15.adv (Adv.nil a')⟩
              · exact ⟨_, Is.str⟩
            have al' := alS (hs15.same a')
            have ib' := ib15.adv (Adv.nil a')
            walk_at "rd"
            obtain ⟨e2, hD2⟩ := dueC_ex xd bd
            refine ⟨⟨[s], x, bv, xd, bd, e2, rfl, al', ix, ib', bdp, bz, bsm, hD2, fun v2 H16 iv2 a16 _ => ?_⟩⟩
            walk_at "rd"
            refine ⟨⟨[s], x, bv, xd, bd, e2, rfl, alloc_adv al' a16 (by simp), ix.adv (Adv.nil a16), ib'.adv (Adv.nil a16), bz, bsm, hD2, fun v3 H17 iv3 a17 => ?_⟩⟩
            walk_at "rd"
            refine ⟨v2, v3, e2, rfl, (iv2.adv (Adv.nil a17)).less (by simp), iv3.less (by simp), dsz bsm hD2, fun H18 a18 => ?_⟩
            walk_at "rd"
            exact ⟨_, rfl, ((a'.trans a16).trans a17).trans a18⟩
          · rintro σ' H16 ⟨y9, rfl, a16⟩
            have hs16 := hs15.same a16
            have hd16 := hd15.adv (Adv.nil a16)
            have io16 := io15.adv (Adv.nil a16)
            walk_at "rd"
            refine ⟨by show 7 ≤ sizeLine; decide, fun p6 n6 => ?_⟩
            have b6 := Adv.new (M := []) (o := .tup [.str "negative", .str "denied", .str "boxed", .str "doubled", .str "modal k", .str "modal s4", .str "modal gl"]) n6
            refine ⟨s, p6, _, [s], rfl, hs16.same b6, .inr upd_same, fun z => hs16.here (by rw [← z]; exact n6), by simp, by simp, fun x H17 hx hs17 a17 => ?_⟩
            obtain ⟨r2, rfl⟩ := pick7 hx
            have g17 : Adv [s] H16 H17 := (Adv.nil b6).trans a17
            have hd17 := hd16.adv g17
            have io17 := io16.adv g17
            walk_at "rd"
            obtain ⟨e2, hD2⟩ := dueC_ex (.str r2.str) d
            refine ⟨⟨[s], .str r2.str, .ref cl, .str r2.str, d, e2, rfl, alS hs17, Is.str, hd17, dd, dz, dm, hD2, fun v2 H18 iv2 a18 _ => ?_⟩⟩
            walk_at "rd"
            refine ⟨⟨[s], .str r2.str, .ref cl, .str r2.str, d, e2, rfl, alloc_adv (alS hs17) a18 (by simp), Is.str, hd17.adv (Adv.nil a18), dz, dm, hD2, fun v3 H19 iv3 a19 => ?_⟩⟩
            walk_at "rd"
            refine ⟨v2, v3, e2, rfl, (iv2.adv (Adv.nil a19)).less (by simp), iv3.less (by simp), dsz dm hD2, fun H20 a20 => ?_⟩
            have g20 := (a18.trans a19).trans a20
            walk_at "rd"
            exact ⟨_, _, _, rfl, hs17.same g20, hd17.adv (Adv.nil g20), io17.adv (Adv.nil g20)⟩
        · walk_at "rd"
          exact ⟨_, _, _, rfl, hs13, hd13, io13⟩
      · rintro σ' H14 ⟨y8, y9, y10, rfl, hs14, hd14, io14⟩
        walk_at "rd"
        refine ⟨⟨[s], ov, .ref cl, od, d, _, rfl, alS hs14, io14, hd14, dd, dz, dm, .value ro, fun v2 H15 iv2 a15 _ => ?_⟩⟩
        walk_at "rd"
        refine ⟨by show 2 ≤ sizeLine; decide, fun p5 n5 => ?_⟩
        have b5 := Adv.new (M := []) (o := .tup [.str "BadValue", .str "reading"]) n5
        refine ⟨v2, .ref p5, _, rfl, (iv2.adv (Adv.nil b5)).less (by simp), Is.tup upd_same (by simp) (.cons .str (.cons .str .nil)), by rw [sz_tup, szL_cons, szL_cons, szL_nil, sz1_str, sz1_str]; decide, fun H16 a16 => ?_⟩
        walk_at "rd"
        exact q _
end
end K60

set_option Elab.async false
set_option linter.all false
set_option maxRecDepth 100000
set_option maxHeartbeats 4000000
namespace K60
open PySem PySem.Spec PyProof.Rows L2 LL
/-! what the top has written -/
theorem kit_of {K : PySem.W.Frag} {D C : Addr} {b : Bool} (ht : PySem.W.typeIn K (.ref C) = some (.type "type")) (hd : PySem.W.hasDictIn K C = true) (h : PySem.W.subIn K (.ref D) (.ref C) = some b) (self : PySem.W.subIn K (.ref D) (.ref D) = some true) : PySem.W.kitOne K (.ref D) (.ref C) = some b := by
  unfold PySem.W.kitOne
  by_cases e : D = C
  · subst e
    rw [h] at self
    rw [if_pos (by simp)]
    exact self.symm
  · rw [if_neg (by simpa using e)]
    obtain ⟨cd, hc, _⟩ := PySem.W.any_some hd
    show (if ((PySem.W.clsIn K C).isSome && PySem.W.typeIn K (.ref C) == some (.type "type")) = true then PySem.W.subIn K (.ref D) (.ref C) else none) = some b
    rw [if_pos (by rw [hc, ht]; rfl)]
    exact h
theorem kit_val {K : PySem.W.Frag} {D : Addr} (h : PySem.W.subIn K (.ref D) (.type "ValueError") = some true) : PySem.W.kitOne K (.ref D) (.type "ValueError") = some true := by
  unfold PySem.W.kitOne
  rw [if_neg (by simp)]
  show (if PySem.W.kitMeta "ValueError" = true then PySem.W.subIn K (.ref D) (.type "ValueError") else none) = some true
  rw [if_pos (by decide +kernel)]
  exact h
theorem rv_str {x : Str} {t : Tok} : RelV (.str x) (.str x t) := ⟨t, rfl⟩
theorem sqT_K {K : PySem.W.Frag} {a : Addr} {od : Option Addr} {its : Array Value} {n : Nat} {sl : Array (Option Value)} {xs : List V} (h : K.lookup a = some ⟨.type "tuple", od, .seq its n, sl⟩) (hz : its.size ≤ sizeLine) (r : Vals xs its.toList) (H : Hp) : SqT K H a xs :=
  .inr ⟨_, its, n, h, rfl, rfl, hz, r⟩
theorem find_map {z : Str} : ∀ l : List DictEntry, (l.find? (·.key.isStr z)).map (·.val) = ((l.map fun e => (e.key, e.val)).find? fun p => p.1.isStr z).map (·.2)
  | [] => rfl
  | e :: l => by
    rw [List.map_cons, List.find?_cons, List.find?_cons]
    show Option.map _ (match e.key.isStr z with | true => _ | false => _) = Option.map _ (match e.key.isStr z with | true => _ | false => _)
    cases e.key.isStr z with
    | true => rfl
    | false => exact find_map l
theorem any_map : ∀ l : List DictEntry, l.any (·.refKey) = (l.map fun e => (e.key, e.val)).any fun p => match p.1 with | .ref _ => true | _ => false
  | [] => rfl
  | e :: l => by
    rw [List.map_cons, List.any_cons, List.any_cons, any_map l]
    rfl
theorem items_at {K : PySem.W.Frag} {a : Addr} {es : Array DictEntry} {n : Nat} {i1 i2 i3 i4 i5 i6 j1 j2 j3 j4 j5 j6 : Tok} (h : K.lookup a = some ⟨.type "dict", none, .dict es n, #[]⟩)
    (e : es.toList.map (fun e => (e.key, e.val)) = [(.str "letter" i1, .int 2 j1), (.str "no" i2, .int 1 j2), (.str "and" i3, .int 3 j3), (.str "or" i4, .int 3 j4), (.str "if" i5, .int 3 j5), (.str "box" i6, .int 2 j6)]) (z : Str) :
    ∃ r, PySem.W.nsIn K a z = some r ∧ RelV (match nItems z with | some k => V.int (k : Nat) | none => V.non) (r.getD .none) := by
  have f := find_map (z := z) es.toList
  have g := any_map es.toList
  rw [e] at f g
  have g' : es.toList.any (·.refKey) = false := g
  unfold PySem.W.nsIn
  rw [h]
  show ∃ r, (match es.toList.find? (·.key.isStr z) with | some e => some (some e.val) | none => if es.toList.any (·.refKey) then none else some none) = some r ∧ _
  rw [g']
  have step : ∀ r : Option Value, (es.toList.find? (·.key.isStr z)).map (·.val) = r → RelV (match nItems z with | some k => V.int (k : Nat) | none => V.non) (r.getD .none) →
      ∃ r, (match es.toList.find? (·.key.isStr z) with | some e => some (some e.val) | none => if false = true then none else some none) = some r ∧ RelV (match nItems z with | some k => V.int (k : Nat) | none => V.non) (r.getD .none) := by
    intro r hr rel
    cases q : es.toList.find? (·.key.isStr z) with
    | none =>
      rw [q] at hr
      exact ⟨none, rfl, by rw [← hr] at rel; exact rel⟩
    | some en =>
      rw [q] at hr
      exact ⟨some en.val, rfl, by rw [← hr] at rel; exact rel⟩
  refine step _ f ?_
  have iS : ∀ (x : Str) (t : Tok), Value.isStr (.str x t) z = (x == z) := fun _ _ => rfl
  by_cases h1 : z = "letter"
  · subst h1; exact ⟨_, rfl⟩
  by_cases h2 : z = "no"
  · subst h2; exact ⟨_, rfl⟩
  by_cases h3 : z = "and"
  · subst h3; exact ⟨_, rfl⟩
  by_cases h4 : z = "or"
  · subst h4; exact ⟨_, rfl⟩
  by_cases h5 : z = "if"
  · subst h5; exact ⟨_, rfl⟩
  by_cases h6 : z = "box"
  · subst h6; exact ⟨_, rfl⟩
  have n0 : nItems z = none := by
    unfold nItems
    rw [if_neg h1, if_neg h2, if_neg h3, if_neg h4, if_neg h5, if_neg h6]
  rw [n0]
  have ne : ∀ x : Str, z ≠ x → (x == z) = false := fun x hx => by simpa using fun e => hx e.symm
  simp only [List.find?_cons, iS, ne _ h1, ne _ h2, ne _ h3, ne _ h4, ne _ h5, ne _ h6, List.find?_nil]
  rfl
/-- the tuples of the written part, and how a tuple key is hashed -/
def kwOf (K : PySem.W.Frag) (P : Program) (w : World) : KW := ⟨fun a vs => ∃ (o : Obj) (its : Array Value) (n : Nat), K.lookup a = some o ∧ o.cls = .type "tuple" ∧ o.data = .seq its n ∧ its.size ≤ sizeLine ∧ Vals vs its.toList, fun ks => (tupleKind (mixKind P w)).hash ks⟩
theorem ns_dict {K : PySem.W.Frag} {a : Addr} {es : Array DictEntry} {n : Nat} (h : K.lookup a = some ⟨.type "dict", none, .dict es n, #[]⟩) {l : List (Value × Value)} (e : es.toList.map (fun e => (e.key, e.val)) = l)
    (g : (l.any fun p => match p.1 with | .ref _ => true | _ => false) = false) (z : Str) : PySem.W.nsIn K a z = some ((l.find? fun p => p.1.isStr z).map (·.2)) := by
  have f := find_map (z := z) es.toList
  have g2 := any_map es.toList
  rw [e] at f g2
  have g' : es.toList.any (·.refKey) = false := g2.trans g
  unfold PySem.W.nsIn
  rw [h]
  show (match es.toList.find? (·.key.isStr z) with | some e => some (some e.val) | none => if es.toList.any (·.refKey) then none else some none) = _
  rw [g', ← f]
  cases q : es.toList.find? (·.key.isStr z) with
  | none => rfl
  | some en => rfl
theorem logof_some {k1 k2 k3 k4 k5 k6 k7 : Tok} {v1 v2 v3 v4 v5 v6 v7 : Value} (z : Str) :
    (((([(.str "negative" k1, v1), (.str "denied" k2, v2), (.str "boxed" k3, v3), (.str "doubled" k4, v4), (.str "modal k" k5, v5), (.str "modal s4" k6, v6), (.str "modal gl" k7, v7)] : List (Value × Value)).find? fun p => p.1.isStr z).map (·.2))).isSome = (r7Of z).isSome := by
  have iS : ∀ (x : Str) (t : Tok), Value.isStr (.str x t) z = (x == z) := fun _ _ => rfl
  have ne : ∀ x : Str, z ≠ x → (x == z) = false := fun x hx => by simpa using fun e => hx e.symm
  by_cases h1 : z = "negative"
  · subst h1; rfl
  by_cases h2 : z = "denied"
  · subst h2; rfl
  by_cases h3 : z = "boxed"
  · subst h3; rfl
  by_cases h4 : z = "doubled"
  · subst h4; rfl
  by_cases h5 : z = "modal k"
  · subst h5; rfl
  by_cases h6 : z = "modal s4"
  · subst h6; rfl
  by_cases h7 : z = "modal gl"
  · subst h7; rfl
  unfold r7Of
  rw [if_neg h1, if_neg h2, if_neg h3, if_neg h4, if_neg h5, if_neg h6, if_neg h7]
  simp only [List.find?_cons, iS, ne _ h1, ne _ h2, ne _ h3, ne _ h4, ne _ h5, ne _ h6, ne _ h7, List.find?_nil]
  rfl
theorem all_mk {P : Program} {w : World} {K : PySem.W.Frag} {h : Heap} {mg : Str → Option Value} {fa : Addr} (X : K.In h) (G : h.Ns mainGlobals mg) (hfa : mg "law" = some (.ref fa))
    {od1 an1 : Option Addr} {sl1 : Array (Option Value)} {oc1 kV1 dc1 pm1 cd1 ct1 : Value} {f1 : Addr}
    {od2 an2 : Option Addr} {sl2 : Array (Option Value)} {oc2 kV2 dc2 pm2 cd2 ct2 : Value} {f2 : Addr}
    {od3 an3 : Option Addr} {sl3 : Array (Option Value)} {oc3 kV3 dc3 pm3 cd3 ct3 : Value} {f3 : Addr}
    {od4 an4 : Option Addr} {sl4 : Array (Option Value)} {oc4 kV4 dc4 pm4 cd4 ct4 : Value} {f4 : Addr}
    {od5 an5 : Option Addr} {sl5 : Array (Option Value)} {oc5 kV5 dc5 pm5 cd5 ct5 : Value} {f5 : Addr}
    {od6 an6 : Option Addr} {sl6 : Array (Option Value)} {oc6 kV6 dc6 pm6 cd6 ct6 : Value} {f6 : Addr}
    {od7 an7 : Option Addr} {sl7 : Array (Option Value)} {oc7 kV7 dc7 pm7 cd7 ct7 : Value} {f7 : Addr}
    {od8 an8 : Option Addr} {sl8 : Array (Option Value)} {oc8 kV8 dc8 pm8 cd8 ct8 : Value} {f8 : Addr}
    {od9 an9 : Option Addr} {sl9 : Array (Option Value)} {oc9 kV9 dc9 pm9 cd9 ct9 : Value} {f9 : Addr}
    {od10 an10 : Option Addr} {sl10 : Array (Option Value)} {oc10 kV10 dc10 pm10 cd10 ct10 : Value} {f10 : Addr}
    {od11 an11 : Option Addr} {sl11 : Array (Option Value)} {oc11 kV11 dc11 pm11 cd11 ct11 : Value} {f11 : Addr}
    {od12 an12 : Option Addr} {sl12 : Array (Option Value)} {oc12 kV12 dc12 pm12 cd12 ct12 : Value} {f12 : Addr}
    {od13 an13 : Option Addr} {sl13 : Array (Option Value)} {oc13 kV13 dc13 pm13 cd13 ct13 : Value} {f13 : Addr}
    {od14 an14 : Option Addr} {sl14 : Array (Option Value)} {oc14 kV14 dc14 pm14 cd14 ct14 : Value} {f14 : Addr}
    {od15 an15 : Option Addr} {sl15 : Array (Option Value)} {oc15 kV15 dc15 pm15 cd15 ct15 : Value} {f15 : Addr}
    {od16 an16 : Option Addr} {sl16 : Array (Option Value)} {oc16 kV16 dc16 pm16 cd16 ct16 : Value} {f16 : Addr}
    {od17 an17 : Option Addr} {sl17 : Array (Option Value)} {oc17 kV17 dc17 pm17 cd17 ct17 : Value} {f17 : Addr}
    {od18 an18 : Option Addr} {sl18 : Array (Option Value)} {oc18 kV18 dc18 pm18 cd18 ct18 : Value} {f18 : Addr}
    {od19 an19 : Option Addr} {sl19 : Array (Option Value)} {oc19 kV19 dc19 pm19 cd19 ct19 : Value} {f19 : Addr}
    {od20 an20 : Option Addr} {sl20 : Array (Option Value)} {oc20 kV20 dc20 pm20 cd20 ct20 : Value} {f20 : Addr}
    {od21 an21 : Option Addr} {sl21 : Array (Option Value)} {oc21 kV21 dc21 pm21 cd21 ct21 : Value} {f21 : Addr}
    {od22 an22 : Option Addr} {sl22 : Array (Option Value)} {oc22 kV22 dc22 pm22 cd22 ct22 : Value} {f22 : Addr}
    {od23 an23 : Option Addr} {sl23 : Array (Option Value)} {oc23 kV23 dc23 pm23 cd23 ct23 : Value} {f23 : Addr}
    {od24 an24 : Option Addr} {sl24 : Array (Option Value)} {oc24 kV24 dc24 pm24 cd24 ct24 : Value} {f24 : Addr}
    {od25 an25 : Option Addr} {sl25 : Array (Option Value)} {oc25 kV25 dc25 pm25 cd25 ct25 : Value} {f25 : Addr}
    {od26 an26 : Option Addr} {sl26 : Array (Option Value)} {oc26 kV26 dc26 pm26 cd26 ct26 : Value} {f26 : Addr}
    {od27 an27 : Option Addr} {sl27 : Array (Option Value)} {oc27 kV27 dc27 pm27 cd27 ct27 : Value} {f27 : Addr}
    {od28 an28 : Option Addr} {sl28 : Array (Option Value)} {oc28 kV28 dc28 pm28 cd28 ct28 : Value} {f28 : Addr}
    {od29 an29 : Option Addr} {sl29 : Array (Option Value)} {oc29 kV29 dc29 pm29 cd29 ct29 : Value} {f29 : Addr}
    {od30 an30 : Option Addr} {sl30 : Array (Option Value)} {oc30 kV30 dc30 pm30 cd30 ct30 : Value} {f30 : Addr}
    {od31 an31 : Option Addr} {sl31 : Array (Option Value)} {oc31 kV31 dc31 pm31 cd31 ct31 : Value} {f31 : Addr}
    {od32 an32 : Option Addr} {sl32 : Array (Option Value)} {oc32 kV32 dc32 pm32 cd32 ct32 : Value} {f32 : Addr}
    {od33 an33 : Option Addr} {sl33 : Array (Option Value)} {oc33 kV33 dc33 pm33 cd33 ct33 : Value} {f33 : Addr}
    {od34 an34 : Option Addr} {sl34 : Array (Option Value)} {oc34 kV34 dc34 pm34 cd34 ct34 : Value} {f34 : Addr}
    {od35 an35 : Option Addr} {sl35 : Array (Option Value)} {oc35 kV35 dc35 pm35 cd35 ct35 : Value} {f35 : Addr}
    {od36 an36 : Option Addr} {sl36 : Array (Option Value)} {oc36 kV36 dc36 pm36 cd36 ct36 : Value} {f36 : Addr}
    {od37 an37 : Option Addr} {sl37 : Array (Option Value)} {oc37 kV37 dc37 pm37 cd37 ct37 : Value} {f37 : Addr}
    {od38 an38 : Option Addr} {sl38 : Array (Option Value)} {oc38 kV38 dc38 pm38 cd38 ct38 : Value} {f38 : Addr}
    {od39 an39 : Option Addr} {sl39 : Array (Option Value)} {oc39 kV39 dc39 pm39 cd39 ct39 : Value} {f39 : Addr}
    {od40 an40 : Option Addr} {sl40 : Array (Option Value)} {oc40 kV40 dc40 pm40 cd40 ct40 : Value} {f40 : Addr}
    {od41 an41 : Option Addr} {sl41 : Array (Option Value)} {oc41 kV41 dc41 pm41 cd41 ct41 : Value} {f41 : Addr}
    {od42 an42 : Option Addr} {sl42 : Array (Option Value)} {oc42 kV42 dc42 pm42 cd42 ct42 : Value} {f42 : Addr}
    {od43 an43 : Option Addr} {sl43 : Array (Option Value)} {oc43 kV43 dc43 pm43 cd43 ct43 : Value} {f43 : Addr}
    {od44 an44 : Option Addr} {sl44 : Array (Option Value)} {oc44 kV44 dc44 pm44 cd44 ct44 : Value} {f44 : Addr}
    {od45 an45 : Option Addr} {sl45 : Array (Option Value)} {oc45 kV45 dc45 pm45 cd45 ct45 : Value} {f45 : Addr}
    {od46 an46 : Option Addr} {sl46 : Array (Option Value)} {oc46 kV46 dc46 pm46 cd46 ct46 : Value} {f46 : Addr}
    {od47 an47 : Option Addr} {sl47 : Array (Option Value)} {oc47 kV47 dc47 pm47 cd47 ct47 : Value} {f47 : Addr}
    {od48 an48 : Option Addr} {sl48 : Array (Option Value)} {oc48 kV48 dc48 pm48 cd48 ct48 : Value} {f48 : Addr}
    {od49 an49 : Option Addr} {sl49 : Array (Option Value)} {oc49 kV49 dc49 pm49 cd49 ct49 : Value} {f49 : Addr}
    {od50 an50 : Option Addr} {sl50 : Array (Option Value)} {oc50 kV50 dc50 pm50 cd50 ct50 : Value} {f50 : Addr}
    {od51 an51 : Option Addr} {sl51 : Array (Option Value)} {oc51 kV51 dc51 pm51 cd51 ct51 : Value} {f51 : Addr}
    {od52 an52 : Option Addr} {sl52 : Array (Option Value)} {oc52 kV52 dc52 pm52 cd52 ct52 : Value} {f52 : Addr}
    {od53 an53 : Option Addr} {sl53 : Array (Option Value)} {oc53 kV53 dc53 pm53 cd53 ct53 : Value} {f53 : Addr}
    {od54 an54 : Option Addr} {sl54 : Array (Option Value)} {oc54 kV54 dc54 pm54 cd54 ct54 : Value} {f54 : Addr}
    {od55 an55 : Option Addr} {sl55 : Array (Option Value)} {oc55 kV55 dc55 pm55 cd55 ct55 : Value} {f55 : Addr}
    {od56 an56 : Option Addr} {sl56 : Array (Option Value)} {oc56 kV56 dc56 pm56 cd56 ct56 : Value} {f56 : Addr}
    {od57 an57 : Option Addr} {sl57 : Array (Option Value)} {oc57 kV57 dc57 pm57 cd57 ct57 : Value} {f57 : Addr}
    {od58 an58 : Option Addr} {sl58 : Array (Option Value)} {oc58 kV58 dc58 pm58 cd58 ct58 : Value} {f58 : Addr}
    {od59 an59 : Option Addr} {sl59 : Array (Option Value)} {oc59 kV59 dc59 pm59 cd59 ct59 : Value} {f59 : Addr}
    {od60 an60 : Option Addr} {sl60 : Array (Option Value)} {oc60 kV60 dc60 pm60 cd60 ct60 : Value} {f60 : Addr}
    {od61 an61 : Option Addr} {sl61 : Array (Option Value)} {oc61 kV61 dc61 pm61 cd61 ct61 : Value} {f61 : Addr}
    {od62 an62 : Option Addr} {sl62 : Array (Option Value)} {oc62 kV62 dc62 pm62 cd62 ct62 : Value} {f62 : Addr}
    {od63 an63 : Option Addr} {sl63 : Array (Option Value)} {oc63 kV63 dc63 pm63 cd63 ct63 : Value} {f63 : Addr}
    {od64 an64 : Option Addr} {sl64 : Array (Option Value)} {oc64 kV64 dc64 pm64 cd64 ct64 : Value} {f64 : Addr}
    {ai : Addr} {nI : Nat} {es : Array DictEntry} {i1 i2 i3 i4 i5 i6 j1 j2 j3 j4 j5 j6 : Tok}
    {t_LAST_LETTER : Tok}
    {t_MOST_PAPER_ROWS : Tok}
    {aNO : Addr} {odNO : Option Addr} {nNO : Nat} {slNO : Array (Option Value)} {mNO0 : Tok}
    {aLOGICS : Addr} {odLOGICS : Option Addr} {nLOGICS : Nat} {slLOGICS : Array (Option Value)} {mLOGICS0 mLOGICS1 mLOGICS2 mLOGICS3 mLOGICS4 : Tok}
    {aMODAL : Addr} {odMODAL : Option Addr} {nMODAL : Nat} {slMODAL : Array (Option Value)} {mMODAL0 mMODAL1 mMODAL2 : Tok}
    {aLo : Addr} {nLo : Nat} {es3 : Array DictEntry} {lkneg lkden lkbox lkdou lkmk lkms lkmg : Tok} {ltneg ltden ltbox ltdou ltmk ltms ltmg : Addr}
    {odLneg : Option Addr} {nLneg : Nat} {slLneg : Array (Option Value)} {mLneg1 mLneg2 : Tok}
    {odLden : Option Addr} {nLden : Nat} {slLden : Array (Option Value)} {mLden1 mLden2 : Tok}
    {odLbox : Option Addr} {nLbox : Nat} {slLbox : Array (Option Value)} {mLbox1 mLbox2 : Tok}
    {odLdou : Option Addr} {nLdou : Nat} {slLdou : Array (Option Value)} {mLdou1 mLdou2 : Tok}
    {odLmk : Option Addr} {nLmk : Nat} {slLmk : Array (Option Value)} {mLmk1 mLmk2 : Tok}
    {odLms : Option Addr} {nLms : Nat} {slLms : Array (Option Value)} {mLms1 mLms2 : Tok}
    {odLmg : Option Addr} {nLmg : Nat} {slLmg : Array (Option Value)} {mLmg1 mLmg2 : Tok}
    {ar : Addr} {nR : Nat} {es2 : Array DictEntry}
    {aG : Addr}
    {odGinit anGinit : Option Addr} {slGinit : Array (Option Value)} {ocGinit kVGinit dcGinit pmGinit cdGinit ctGinit : Value} {fGinit : Addr}
    {odGnode_row anGnode_row : Option Addr} {slGnode_row : Array (Option Value)} {ocGnode_row kVGnode_row dcGnode_row pmGnode_row cdGnode_row ctGnode_row : Value} {fGnode_row : Addr}
    {odGdeny anGdeny : Option Addr} {slGdeny : Array (Option Value)} {ocGdeny kVGdeny dcGdeny pmGdeny cdGdeny ctGdeny : Value} {fGdeny : Addr}
    {cBadLogic cBadSheet cBadClaim cBadModel cBadPaper cBadTerm cBadEdit cBadValue cBadText cBadSize cTooMany cNotBoxed cNotProved cNotThere cNothingToUndo cNothingToRedo CE : Addr}
    {odEBadSheet anEBadSheet : Option Addr} {slEBadSheet : Array (Option Value)} {ocEBadSheet kVEBadSheet dcEBadSheet pmEBadSheet cdEBadSheet ctEBadSheet : Value} {fEBadSheet : Addr}
    {odEBadValue anEBadValue : Option Addr} {slEBadValue : Array (Option Value)} {ocEBadValue kVEBadValue dcEBadValue pmEBadValue cdEBadValue ctEBadValue : Value} {fEBadValue : Addr}
    {odEBadClaim anEBadClaim : Option Addr} {slEBadClaim : Array (Option Value)} {ocEBadClaim kVEBadClaim dcEBadClaim pmEBadClaim cdEBadClaim ctEBadClaim : Value} {fEBadClaim : Addr}
    (a1 : PySem.W.nsIn K mainGlobals "is_integer" = some (some (.ref f1)))
    (l1 : K.lookup f1 = some ⟨oc1, od1, .func (PySem.W.fnOf "is_integer" "is_integer" (defArgs s_is_integer) (defBody s_is_integer) (defScope s_is_integer) .none kV1 dc1 pm1 an1 cd1 ct1), sl1⟩)
    (c1 : PySem.W.codeIn K cd1 "is_integer" = true)
    (k1 : PySem.W.keepIn K (.ref f1) = true)
    (a2 : PySem.W.nsIn K mainGlobals "is_between" = some (some (.ref f2)))
    (l2 : K.lookup f2 = some ⟨oc2, od2, .func (PySem.W.fnOf "is_between" "is_between" (defArgs s_is_between) (defBody s_is_between) (defScope s_is_between) .none kV2 dc2 pm2 an2 cd2 ct2), sl2⟩)
    (c2 : PySem.W.codeIn K cd2 "is_between" = true)
    (k2 : PySem.W.keepIn K (.ref f2) = true)
    (a3 : PySem.W.nsIn K mainGlobals "is_tuple_of" = some (some (.ref f3)))
    (l3 : K.lookup f3 = some ⟨oc3, od3, .func (PySem.W.fnOf "is_tuple_of" "is_tuple_of" (defArgs s_is_tuple_of) (defBody s_is_tuple_of) (defScope s_is_tuple_of) .none kV3 dc3 pm3 an3 cd3 ct3), sl3⟩)
    (c3 : PySem.W.codeIn K cd3 "is_tuple_of" = true)
    (k3 : PySem.W.keepIn K (.ref f3) = true)
    (a4 : PySem.W.nsIn K mainGlobals "are_any_rows" = some (some (.ref f4)))
    (l4 : K.lookup f4 = some ⟨oc4, od4, .func (PySem.W.fnOf "are_any_rows" "are_any_rows" (defArgs s_are_any_rows) (defBody s_are_any_rows) (defScope s_are_any_rows) .none kV4 dc4 pm4 an4 cd4 ct4), sl4⟩)
    (c4 : PySem.W.codeIn K cd4 "are_any_rows" = true)
    (k4 : PySem.W.keepIn K (.ref f4) = true)
    (a5 : PySem.W.nsIn K mainGlobals "is_rising" = some (some (.ref f5)))
    (l5 : K.lookup f5 = some ⟨oc5, od5, .func (PySem.W.fnOf "is_rising" "is_rising" (defArgs s_is_rising) (defBody s_is_rising) (defScope s_is_rising) .none kV5 dc5 pm5 an5 cd5 ct5), sl5⟩)
    (c5 : PySem.W.codeIn K cd5 "is_rising" = true)
    (k5 : PySem.W.keepIn K (.ref f5) = true)
    (a6 : PySem.W.nsIn K mainGlobals "are_rows" = some (some (.ref f6)))
    (l6 : K.lookup f6 = some ⟨oc6, od6, .func (PySem.W.fnOf "are_rows" "are_rows" (defArgs s_are_rows) (defBody s_are_rows) (defScope s_are_rows) .none kV6 dc6 pm6 an6 cd6 ct6), sl6⟩)
    (c6 : PySem.W.codeIn K cd6 "are_rows" = true)
    (k6 : PySem.W.keepIn K (.ref f6) = true)
    (a7 : PySem.W.nsIn K mainGlobals "check_logic" = some (some (.ref f7)))
    (l7 : K.lookup f7 = some ⟨oc7, od7, .func (PySem.W.fnOf "check_logic" "check_logic" (defArgs s_check_logic) (defBody s_check_logic) (defScope s_check_logic) .none kV7 dc7 pm7 an7 cd7 ct7), sl7⟩)
    (c7 : PySem.W.codeIn K cd7 "check_logic" = true)
    (k7 : PySem.W.keepIn K (.ref f7) = true)
    (a8 : PySem.W.nsIn K mainGlobals "is_boxed" = some (some (.ref f8)))
    (l8 : K.lookup f8 = some ⟨oc8, od8, .func (PySem.W.fnOf "is_boxed" "is_boxed" (defArgs s_is_boxed) (defBody s_is_boxed) (defScope s_is_boxed) .none kV8 dc8 pm8 an8 cd8 ct8), sl8⟩)
    (c8 : PySem.W.codeIn K cd8 "is_boxed" = true)
    (k8 : PySem.W.keepIn K (.ref f8) = true)
    (a9 : PySem.W.nsIn K mainGlobals "is_node" = some (some (.ref f9)))
    (l9 : K.lookup f9 = some ⟨oc9, od9, .func (PySem.W.fnOf "is_node" "is_node" (defArgs s_is_node) (defBody s_is_node) (defScope s_is_node) .none kV9 dc9 pm9 an9 cd9 ct9), sl9⟩)
    (c9 : PySem.W.codeIn K cd9 "is_node" = true)
    (k9 : PySem.W.keepIn K (.ref f9) = true)
    (a10 : PySem.W.nsIn K mainGlobals "wrong_row" = some (some (.ref f10)))
    (l10 : K.lookup f10 = some ⟨oc10, od10, .func (PySem.W.fnOf "wrong_row" "wrong_row" (defArgs s_wrong_row) (defBody s_wrong_row) (defScope s_wrong_row) .none kV10 dc10 pm10 an10 cd10 ct10), sl10⟩)
    (c10 : PySem.W.codeIn K cd10 "wrong_row" = true)
    (k10 : PySem.W.keepIn K (.ref f10) = true)
    (a11 : PySem.W.nsIn K mainGlobals "check_rows_of" = some (some (.ref f11)))
    (l11 : K.lookup f11 = some ⟨oc11, od11, .func (PySem.W.fnOf "check_rows_of" "check_rows_of" (defArgs s_check_rows_of) (defBody s_check_rows_of) (defScope s_check_rows_of) .none kV11 dc11 pm11 an11 cd11 ct11), sl11⟩)
    (c11 : PySem.W.codeIn K cd11 "check_rows_of" = true)
    (k11 : PySem.W.keepIn K (.ref f11) = true)
    (a12 : PySem.W.nsIn K mainGlobals "parts" = some (some (.ref f12)))
    (l12 : K.lookup f12 = some ⟨oc12, od12, .func (PySem.W.fnOf "parts" "parts" (defArgs s_parts) (defBody s_parts) (defScope s_parts) .none kV12 dc12 pm12 an12 cd12 ct12), sl12⟩)
    (c12 : PySem.W.codeIn K cd12 "parts" = true)
    (k12 : PySem.W.keepIn K (.ref f12) = true)
    (a13 : PySem.W.nsIn K mainGlobals "rows_below" = some (some (.ref f13)))
    (l13 : K.lookup f13 = some ⟨oc13, od13, .func (PySem.W.fnOf "rows_below" "rows_below" (defArgs s_rows_below) (defBody s_rows_below) (defScope s_rows_below) .none kV13 dc13 pm13 an13 cd13 ct13), sl13⟩)
    (c13 : PySem.W.codeIn K cd13 "rows_below" = true)
    (k13 : PySem.W.keepIn K (.ref f13) = true)
    (a14 : PySem.W.nsIn K mainGlobals "places" = some (some (.ref f14)))
    (l14 : K.lookup f14 = some ⟨oc14, od14, .func (PySem.W.fnOf "places" "places" (defArgs s_places) (defBody s_places) (defScope s_places) .none kV14 dc14 pm14 an14 cd14 ct14), sl14⟩)
    (c14 : PySem.W.codeIn K cd14 "places" = true)
    (k14 : PySem.W.keepIn K (.ref f14) = true)
    (a15 : PySem.W.nsIn K mainGlobals "row_for" = some (some (.ref f15)))
    (l15 : K.lookup f15 = some ⟨oc15, od15, .func (PySem.W.fnOf "row_for" "row_for" (defArgs s_row_for) (defBody s_row_for) (defScope s_row_for) .none kV15 dc15 pm15 an15 cd15 ct15), sl15⟩)
    (c15 : PySem.W.codeIn K cd15 "row_for" = true)
    (k15 : PySem.W.keepIn K (.ref f15) = true)
    (a16 : PySem.W.nsIn K mainGlobals "check_claim_to" = some (some (.ref f16)))
    (l16 : K.lookup f16 = some ⟨oc16, od16, .func (PySem.W.fnOf "check_claim_to" "check_claim_to" (defArgs s_check_claim_to) (defBody s_check_claim_to) (defScope s_check_claim_to) .none kV16 dc16 pm16 an16 cd16 ct16), sl16⟩)
    (c16 : PySem.W.codeIn K cd16 "check_claim_to" = true)
    (k16 : PySem.W.keepIn K (.ref f16) = true)
    (a17 : PySem.W.nsIn K mainGlobals "check_any_claim" = some (some (.ref f17)))
    (l17 : K.lookup f17 = some ⟨oc17, od17, .func (PySem.W.fnOf "check_any_claim" "check_any_claim" (defArgs s_check_any_claim) (defBody s_check_any_claim) (defScope s_check_any_claim) .none kV17 dc17 pm17 an17 cd17 ct17), sl17⟩)
    (c17 : PySem.W.codeIn K cd17 "check_any_claim" = true)
    (k17 : PySem.W.keepIn K (.ref f17) = true)
    (a18 : PySem.W.nsIn K mainGlobals "same_word" = some (some (.ref f18)))
    (l18 : K.lookup f18 = some ⟨oc18, od18, .func (PySem.W.fnOf "same_word" "same_word" (defArgs s_same_word) (defBody s_same_word) (defScope s_same_word) .none kV18 dc18 pm18 an18 cd18 ct18), sl18⟩)
    (c18 : PySem.W.codeIn K cd18 "same_word" = true)
    (k18 : PySem.W.keepIn K (.ref f18) = true)
    (a19 : PySem.W.nsIn K mainGlobals "negative_row" = some (some (.ref f19)))
    (l19 : K.lookup f19 = some ⟨oc19, od19, .func (PySem.W.fnOf "negative_row" "negative_row" (defArgs s_negative_row) (defBody s_negative_row) (defScope s_negative_row) .none kV19 dc19 pm19 an19 cd19 ct19), sl19⟩)
    (c19 : PySem.W.codeIn K cd19 "negative_row" = true)
    (k19 : PySem.W.keepIn K (.ref f19) = true)
    (a20 : PySem.W.nsIn K mainGlobals "boxed_row" = some (some (.ref f20)))
    (l20 : K.lookup f20 = some ⟨oc20, od20, .func (PySem.W.fnOf "boxed_row" "boxed_row" (defArgs s_boxed_row) (defBody s_boxed_row) (defScope s_boxed_row) .none kV20 dc20 pm20 an20 cd20 ct20), sl20⟩)
    (c20 : PySem.W.codeIn K cd20 "boxed_row" = true)
    (k20 : PySem.W.keepIn K (.ref f20) = true)
    (a21 : PySem.W.nsIn K mainGlobals "doubled_row" = some (some (.ref f21)))
    (l21 : K.lookup f21 = some ⟨oc21, od21, .func (PySem.W.fnOf "doubled_row" "doubled_row" (defArgs s_doubled_row) (defBody s_doubled_row) (defScope s_doubled_row) .none kV21 dc21 pm21 an21 cd21 ct21), sl21⟩)
    (c21 : PySem.W.codeIn K cd21 "doubled_row" = true)
    (k21 : PySem.W.keepIn K (.ref f21) = true)
    (a22 : PySem.W.nsIn K mainGlobals "grown" = some (some (.ref f22)))
    (l22 : K.lookup f22 = some ⟨oc22, od22, .func (PySem.W.fnOf "grown" "grown" (defArgs s_grown) (defBody s_grown) (defScope s_grown) .none kV22 dc22 pm22 an22 cd22 ct22), sl22⟩)
    (c22 : PySem.W.codeIn K cd22 "grown" = true)
    (k22 : PySem.W.keepIn K (.ref f22) = true)
    (a23 : PySem.W.nsIn K mainGlobals "logics_of" = some (some (.ref f23)))
    (l23 : K.lookup f23 = some ⟨oc23, od23, .func (PySem.W.fnOf "logics_of" "logics_of" (defArgs s_logics_of) (defBody s_logics_of) (defScope s_logics_of) .none kV23 dc23 pm23 an23 cd23 ct23), sl23⟩)
    (c23 : PySem.W.codeIn K cd23 "logics_of" = true)
    (k23 : PySem.W.keepIn K (.ref f23) = true)
    (a24 : PySem.W.nsIn K mainGlobals "ascending" = some (some (.ref f24)))
    (l24 : K.lookup f24 = some ⟨oc24, od24, .func (PySem.W.fnOf "ascending" "ascending" (defArgs s_ascending) (defBody s_ascending) (defScope s_ascending) .none kV24 dc24 pm24 an24 cd24 ct24), sl24⟩)
    (c24 : PySem.W.codeIn K cd24 "ascending" = true)
    (k24 : PySem.W.keepIn K (.ref f24) = true)
    (a25 : PySem.W.nsIn K mainGlobals "grown_twice" = some (some (.ref f25)))
    (l25 : K.lookup f25 = some ⟨oc25, od25, .func (PySem.W.fnOf "grown_twice" "grown_twice" (defArgs s_grown_twice) (defBody s_grown_twice) (defScope s_grown_twice) .none kV25 dc25 pm25 an25 cd25 ct25), sl25⟩)
    (c25 : PySem.W.codeIn K cd25 "grown_twice" = true)
    (k25 : PySem.W.keepIn K (.ref f25) = true)
    (a26 : PySem.W.nsIn K mainGlobals "read_sides" = some (some (.ref f26)))
    (l26 : K.lookup f26 = some ⟨oc26, od26, .func (PySem.W.fnOf "read_sides" "read_sides" (defArgs s_read_sides) (defBody s_read_sides) (defScope s_read_sides) .none kV26 dc26 pm26 an26 cd26 ct26), sl26⟩)
    (c26 : PySem.W.codeIn K cd26 "read_sides" = true)
    (k26 : PySem.W.keepIn K (.ref f26) = true)
    (a27 : PySem.W.nsIn K mainGlobals "read_claim_of" = some (some (.ref f27)))
    (l27 : K.lookup f27 = some ⟨oc27, od27, .func (PySem.W.fnOf "read_claim_of" "read_claim_of" (defArgs s_read_claim_of) (defBody s_read_claim_of) (defScope s_read_claim_of) .none kV27 dc27 pm27 an27 cd27 ct27), sl27⟩)
    (c27 : PySem.W.codeIn K cd27 "read_claim_of" = true)
    (k27 : PySem.W.keepIn K (.ref f27) = true)
    (a28 : PySem.W.nsIn K mainGlobals "reading_of" = some (some (.ref f28)))
    (l28 : K.lookup f28 = some ⟨oc28, od28, .func (PySem.W.fnOf "reading_of" "reading_of" (defArgs s_reading_of) (defBody s_reading_of) (defScope s_reading_of) .none kV28 dc28 pm28 an28 cd28 ct28), sl28⟩)
    (c28 : PySem.W.codeIn K cd28 "reading_of" = true)
    (k28 : PySem.W.keepIn K (.ref f28) = true)
    (a29 : PySem.W.nsIn K mainGlobals "_law_stream" = some (some (.ref f29)))
    (l29 : K.lookup f29 = some ⟨oc29, od29, .func (PySem.W.fnOf "_law_stream" "_law_stream" (defArgs s_law_stream) (defBody s_law_stream) (defScope s_law_stream) .none kV29 dc29 pm29 an29 cd29 ct29), sl29⟩)
    (c29 : PySem.W.codeIn K cd29 "_law_stream" = true)
    (k29 : PySem.W.keepIn K (.ref f29) = true)
    (a30 : PySem.W.nsIn K mainGlobals "_law_next" = some (some (.ref f30)))
    (l30 : K.lookup f30 = some ⟨oc30, od30, .func (PySem.W.fnOf "_law_next" "_law_next" (defArgs s_law_next) (defBody s_law_next) (defScope s_law_next) .none kV30 dc30 pm30 an30 cd30 ct30), sl30⟩)
    (c30 : PySem.W.codeIn K cd30 "_law_next" = true)
    (k30 : PySem.W.keepIn K (.ref f30) = true)
    (a31 : PySem.W.nsIn K mainGlobals "_law_pick" = some (some (.ref f31)))
    (l31 : K.lookup f31 = some ⟨oc31, od31, .func (PySem.W.fnOf "_law_pick" "_law_pick" (defArgs s_law_pick) (defBody s_law_pick) (defScope s_law_pick) .none kV31 dc31 pm31 an31 cd31 ct31), sl31⟩)
    (c31 : PySem.W.codeIn K cd31 "_law_pick" = true)
    (k31 : PySem.W.keepIn K (.ref f31) = true)
    (a32 : PySem.W.nsIn K mainGlobals "_law_from" = some (some (.ref f32)))
    (l32 : K.lookup f32 = some ⟨oc32, od32, .func (PySem.W.fnOf "_law_from" "_law_from" (defArgs s_law_from) (defBody s_law_from) (defScope s_law_from) .none kV32 dc32 pm32 an32 cd32 ct32), sl32⟩)
    (c32 : PySem.W.codeIn K cd32 "_law_from" = true)
    (k32 : PySem.W.keepIn K (.ref f32) = true)
    (a33 : PySem.W.nsIn K mainGlobals "_law_some" = some (some (.ref f33)))
    (l33 : K.lookup f33 = some ⟨oc33, od33, .func (PySem.W.fnOf "_law_some" "_law_some" (defArgs s_law_some) (defBody s_law_some) (defScope s_law_some) .none kV33 dc33 pm33 an33 cd33 ct33), sl33⟩)
    (c33 : PySem.W.codeIn K cd33 "_law_some" = true)
    (k33 : PySem.W.keepIn K (.ref f33) = true)
    (a34 : PySem.W.nsIn K mainGlobals "_law_number" = some (some (.ref f34)))
    (l34 : K.lookup f34 = some ⟨oc34, od34, .func (PySem.W.fnOf "_law_number" "_law_number" (defArgs s_law_number) (defBody s_law_number) (defScope s_law_number) .none kV34 dc34 pm34 an34 cd34 ct34), sl34⟩)
    (c34 : PySem.W.codeIn K cd34 "_law_number" = true)
    (k34 : PySem.W.keepIn K (.ref f34) = true)
    (a35 : PySem.W.nsIn K mainGlobals "_law_same" = some (some (.ref f35)))
    (l35 : K.lookup f35 = some ⟨oc35, od35, .func (PySem.W.fnOf "_law_same" "_law_same" (defArgs s_law_same) (defBody s_law_same) (defScope s_law_same) .none kV35 dc35 pm35 an35 cd35 ct35), sl35⟩)
    (c35 : PySem.W.codeIn K cd35 "_law_same" = true)
    (k35 : PySem.W.keepIn K (.ref f35) = true)
    (a36 : PySem.W.nsIn K mainGlobals "_law_copy" = some (some (.ref f36)))
    (l36 : K.lookup f36 = some ⟨oc36, od36, .func (PySem.W.fnOf "_law_copy" "_law_copy" (defArgs s_law_copy) (defBody s_law_copy) (defScope s_law_copy) .none kV36 dc36 pm36 an36 cd36 ct36), sl36⟩)
    (c36 : PySem.W.codeIn K cd36 "_law_copy" = true)
    (k36 : PySem.W.keepIn K (.ref f36) = true)
    (a37 : PySem.W.nsIn K mainGlobals "_law_named" = some (some (.ref f37)))
    (l37 : K.lookup f37 = some ⟨oc37, od37, .func (PySem.W.fnOf "_law_named" "_law_named" (defArgs s_law_named) (defBody s_law_named) (defScope s_law_named) .none kV37 dc37 pm37 an37 cd37 ct37), sl37⟩)
    (c37 : PySem.W.codeIn K cd37 "_law_named" = true)
    (k37 : PySem.W.keepIn K (.ref f37) = true)
    (a38 : PySem.W.nsIn K mainGlobals "_law_book" = some (some (.ref f38)))
    (l38 : K.lookup f38 = some ⟨oc38, od38, .func (PySem.W.fnOf "_law_book" "_law_book" (defArgs s_law_book) (defBody s_law_book) (defScope s_law_book) .none kV38 dc38 pm38 an38 cd38 ct38), sl38⟩)
    (c38 : PySem.W.codeIn K cd38 "_law_book" = true)
    (k38 : PySem.W.keepIn K (.ref f38) = true)
    (a39 : PySem.W.nsIn K mainGlobals "_law_row" = some (some (.ref f39)))
    (l39 : K.lookup f39 = some ⟨oc39, od39, .func (PySem.W.fnOf "_law_row" "_law_row" (defArgs s_law_row) (defBody s_law_row) (defScope s_law_row) .none kV39 dc39 pm39 an39 cd39 ct39), sl39⟩)
    (c39 : PySem.W.codeIn K cd39 "_law_row" = true)
    (k39 : PySem.W.keepIn K (.ref f39) = true)
    (a40 : PySem.W.nsIn K mainGlobals "_law_parts" = some (some (.ref f40)))
    (l40 : K.lookup f40 = some ⟨oc40, od40, .func (PySem.W.fnOf "_law_parts" "_law_parts" (defArgs s_law_parts) (defBody s_law_parts) (defScope s_law_parts) .none kV40 dc40 pm40 an40 cd40 ct40), sl40⟩)
    (c40 : PySem.W.codeIn K cd40 "_law_parts" = true)
    (k40 : PySem.W.keepIn K (.ref f40) = true)
    (a41 : PySem.W.nsIn K mainGlobals "_law_below" = some (some (.ref f41)))
    (l41 : K.lookup f41 = some ⟨oc41, od41, .func (PySem.W.fnOf "_law_below" "_law_below" (defArgs s_law_below) (defBody s_law_below) (defScope s_law_below) .none kV41 dc41 pm41 an41 cd41 ct41), sl41⟩)
    (c41 : PySem.W.codeIn K cd41 "_law_below" = true)
    (k41 : PySem.W.keepIn K (.ref f41) = true)
    (a42 : PySem.W.nsIn K mainGlobals "_law_moved" = some (some (.ref f42)))
    (l42 : K.lookup f42 = some ⟨oc42, od42, .func (PySem.W.fnOf "_law_moved" "_law_moved" (defArgs s_law_moved) (defBody s_law_moved) (defScope s_law_moved) .none kV42 dc42 pm42 an42 cd42 ct42), sl42⟩)
    (c42 : PySem.W.codeIn K cd42 "_law_moved" = true)
    (k42 : PySem.W.keepIn K (.ref f42) = true)
    (a43 : PySem.W.nsIn K mainGlobals "_law_not" = some (some (.ref f43)))
    (l43 : K.lookup f43 = some ⟨oc43, od43, .func (PySem.W.fnOf "_law_not" "_law_not" (defArgs s_law_not) (defBody s_law_not) (defScope s_law_not) .none kV43 dc43 pm43 an43 cd43 ct43), sl43⟩)
    (c43 : PySem.W.codeIn K cd43 "_law_not" = true)
    (k43 : PySem.W.keepIn K (.ref f43) = true)
    (a44 : PySem.W.nsIn K mainGlobals "_law_leaf" = some (some (.ref f44)))
    (l44 : K.lookup f44 = some ⟨oc44, od44, .func (PySem.W.fnOf "_law_leaf" "_law_leaf" (defArgs s_law_leaf) (defBody s_law_leaf) (defScope s_law_leaf) .none kV44 dc44 pm44 an44 cd44 ct44), sl44⟩)
    (c44 : PySem.W.codeIn K cd44 "_law_leaf" = true)
    (k44 : PySem.W.keepIn K (.ref f44) = true)
    (a45 : PySem.W.nsIn K mainGlobals "_law_tree" = some (some (.ref f45)))
    (l45 : K.lookup f45 = some ⟨oc45, od45, .func (PySem.W.fnOf "_law_tree" "_law_tree" (defArgs s_law_tree) (defBody s_law_tree) (defScope s_law_tree) .none kV45 dc45 pm45 an45 cd45 ct45), sl45⟩)
    (c45 : PySem.W.codeIn K cd45 "_law_tree" = true)
    (k45 : PySem.W.keepIn K (.ref f45) = true)
    (a46 : PySem.W.nsIn K mainGlobals "_law_heap" = some (some (.ref f46)))
    (l46 : K.lookup f46 = some ⟨oc46, od46, .func (PySem.W.fnOf "_law_heap" "_law_heap" (defArgs s_law_heap) (defBody s_law_heap) (defScope s_law_heap) .none kV46 dc46 pm46 an46 cd46 ct46), sl46⟩)
    (c46 : PySem.W.codeIn K cd46 "_law_heap" = true)
    (k46 : PySem.W.keepIn K (.ref f46) = true)
    (a47 : PySem.W.nsIn K mainGlobals "_law_formula" = some (some (.ref f47)))
    (l47 : K.lookup f47 = some ⟨oc47, od47, .func (PySem.W.fnOf "_law_formula" "_law_formula" (defArgs s_law_formula) (defBody s_law_formula) (defScope s_law_formula) .none kV47 dc47 pm47 an47 cd47 ct47), sl47⟩)
    (c47 : PySem.W.codeIn K cd47 "_law_formula" = true)
    (k47 : PySem.W.keepIn K (.ref f47) = true)
    (a48 : PySem.W.nsIn K mainGlobals "_law_is_rows" = some (some (.ref f48)))
    (l48 : K.lookup f48 = some ⟨oc48, od48, .func (PySem.W.fnOf "_law_is_rows" "_law_is_rows" (defArgs s_law_is_rows) (defBody s_law_is_rows) (defScope s_law_is_rows) .none kV48 dc48 pm48 an48 cd48 ct48), sl48⟩)
    (c48 : PySem.W.codeIn K cd48 "_law_is_rows" = true)
    (k48 : PySem.W.keepIn K (.ref f48) = true)
    (a49 : PySem.W.nsIn K mainGlobals "_law_is_node" = some (some (.ref f49)))
    (l49 : K.lookup f49 = some ⟨oc49, od49, .func (PySem.W.fnOf "_law_is_node" "_law_is_node" (defArgs s_law_is_node) (defBody s_law_is_node) (defScope s_law_is_node) .none kV49 dc49 pm49 an49 cd49 ct49), sl49⟩)
    (c49 : PySem.W.codeIn K cd49 "_law_is_node" = true)
    (k49 : PySem.W.keepIn K (.ref f49) = true)
    (a50 : PySem.W.nsIn K mainGlobals "_law_wrong_row" = some (some (.ref f50)))
    (l50 : K.lookup f50 = some ⟨oc50, od50, .func (PySem.W.fnOf "_law_wrong_row" "_law_wrong_row" (defArgs s_law_wrong_row) (defBody s_law_wrong_row) (defScope s_law_wrong_row) .none kV50 dc50 pm50 an50 cd50 ct50), sl50⟩)
    (c50 : PySem.W.codeIn K cd50 "_law_wrong_row" = true)
    (k50 : PySem.W.keepIn K (.ref f50) = true)
    (a51 : PySem.W.nsIn K mainGlobals "_law_reading_row" = some (some (.ref f51)))
    (l51 : K.lookup f51 = some ⟨oc51, od51, .func (PySem.W.fnOf "_law_reading_row" "_law_reading_row" (defArgs s_law_reading_row) (defBody s_law_reading_row) (defScope s_law_reading_row) .none kV51 dc51 pm51 an51 cd51 ct51), sl51⟩)
    (c51 : PySem.W.codeIn K cd51 "_law_reading_row" = true)
    (k51 : PySem.W.keepIn K (.ref f51) = true)
    (a52 : PySem.W.nsIn K mainGlobals "_law_read" = some (some (.ref f52)))
    (l52 : K.lookup f52 = some ⟨oc52, od52, .func (PySem.W.fnOf "_law_read" "_law_read" (defArgs s_law_read) (defBody s_law_read) (defScope s_law_read) .none kV52 dc52 pm52 an52 cd52 ct52), sl52⟩)
    (c52 : PySem.W.codeIn K cd52 "_law_read" = true)
    (k52 : PySem.W.keepIn K (.ref f52) = true)
    (a53 : PySem.W.nsIn K mainGlobals "_law_read_claim" = some (some (.ref f53)))
    (l53 : K.lookup f53 = some ⟨oc53, od53, .func (PySem.W.fnOf "_law_read_claim" "_law_read_claim" (defArgs s_law_read_claim) (defBody s_law_read_claim) (defScope s_law_read_claim) .none kV53 dc53 pm53 an53 cd53 ct53), sl53⟩)
    (c53 : PySem.W.codeIn K cd53 "_law_read_claim" = true)
    (k53 : PySem.W.keepIn K (.ref f53) = true)
    (a54 : PySem.W.nsIn K mainGlobals "_law_logics" = some (some (.ref f54)))
    (l54 : K.lookup f54 = some ⟨oc54, od54, .func (PySem.W.fnOf "_law_logics" "_law_logics" (defArgs s_law_logics) (defBody s_law_logics) (defScope s_law_logics) .none kV54 dc54 pm54 an54 cd54 ct54), sl54⟩)
    (c54 : PySem.W.codeIn K cd54 "_law_logics" = true)
    (k54 : PySem.W.keepIn K (.ref f54) = true)
    (a55 : PySem.W.nsIn K mainGlobals "_law_claim_error" = some (some (.ref f55)))
    (l55 : K.lookup f55 = some ⟨oc55, od55, .func (PySem.W.fnOf "_law_claim_error" "_law_claim_error" (defArgs s_law_claim_error) (defBody s_law_claim_error) (defScope s_law_claim_error) .none kV55 dc55 pm55 an55 cd55 ct55), sl55⟩)
    (c55 : PySem.W.codeIn K cd55 "_law_claim_error" = true)
    (k55 : PySem.W.keepIn K (.ref f55) = true)
    (a56 : PySem.W.nsIn K mainGlobals "_law_long" = some (some (.ref f56)))
    (l56 : K.lookup f56 = some ⟨oc56, od56, .func (PySem.W.fnOf "_law_long" "_law_long" (defArgs s_law_long) (defBody s_law_long) (defScope s_law_long) .none kV56 dc56 pm56 an56 cd56 ct56), sl56⟩)
    (c56 : PySem.W.codeIn K cd56 "_law_long" = true)
    (k56 : PySem.W.keepIn K (.ref f56) = true)
    (a57 : PySem.W.nsIn K mainGlobals "_law_due" = some (some (.ref f57)))
    (l57 : K.lookup f57 = some ⟨oc57, od57, .func (PySem.W.fnOf "_law_due" "_law_due" (defArgs s_law_due) (defBody s_law_due) (defScope s_law_due) .none kV57 dc57 pm57 an57 cd57 ct57), sl57⟩)
    (c57 : PySem.W.codeIn K cd57 "_law_due" = true)
    (k57 : PySem.W.keepIn K (.ref f57) = true)
    (a58 : PySem.W.nsIn K mainGlobals "_law_asked" = some (some (.ref f58)))
    (l58 : K.lookup f58 = some ⟨oc58, od58, .func (PySem.W.fnOf "_law_asked" "_law_asked" (defArgs s_law_asked) (defBody s_law_asked) (defScope s_law_asked) .none kV58 dc58 pm58 an58 cd58 ct58), sl58⟩)
    (c58 : PySem.W.codeIn K cd58 "_law_asked" = true)
    (k58 : PySem.W.keepIn K (.ref f58) = true)
    (a59 : PySem.W.nsIn K mainGlobals "_law_asked_logics" = some (some (.ref f59)))
    (l59 : K.lookup f59 = some ⟨oc59, od59, .func (PySem.W.fnOf "_law_asked_logics" "_law_asked_logics" (defArgs s_law_asked_logics) (defBody s_law_asked_logics) (defScope s_law_asked_logics) .none kV59 dc59 pm59 an59 cd59 ct59), sl59⟩)
    (c59 : PySem.W.codeIn K cd59 "_law_asked_logics" = true)
    (k59 : PySem.W.keepIn K (.ref f59) = true)
    (a60 : PySem.W.nsIn K mainGlobals "_law_sides" = some (some (.ref f60)))
    (l60 : K.lookup f60 = some ⟨oc60, od60, .func (PySem.W.fnOf "_law_sides" "_law_sides" (defArgs s_law_sides) (defBody s_law_sides) (defScope s_law_sides) .none kV60 dc60 pm60 an60 cd60 ct60), sl60⟩)
    (c60 : PySem.W.codeIn K cd60 "_law_sides" = true)
    (k60 : PySem.W.keepIn K (.ref f60) = true)
    (a61 : PySem.W.nsIn K mainGlobals "_law_twins" = some (some (.ref f61)))
    (l61 : K.lookup f61 = some ⟨oc61, od61, .func (PySem.W.fnOf "_law_twins" "_law_twins" (defArgs s_law_twins) (defBody s_law_twins) (defScope s_law_twins) .none kV61 dc61 pm61 an61 cd61 ct61), sl61⟩)
    (c61 : PySem.W.codeIn K cd61 "_law_twins" = true)
    (k61 : PySem.W.keepIn K (.ref f61) = true)
    (a62 : PySem.W.nsIn K mainGlobals "_law_claim" = some (some (.ref f62)))
    (l62 : K.lookup f62 = some ⟨oc62, od62, .func (PySem.W.fnOf "_law_claim" "_law_claim" (defArgs s_law_claim) (defBody s_law_claim) (defScope s_law_claim) .none kV62 dc62 pm62 an62 cd62 ct62), sl62⟩)
    (c62 : PySem.W.codeIn K cd62 "_law_claim" = true)
    (k62 : PySem.W.keepIn K (.ref f62) = true)
    (a63 : PySem.W.nsIn K mainGlobals "_law_bent" = some (some (.ref f63)))
    (l63 : K.lookup f63 = some ⟨oc63, od63, .func (PySem.W.fnOf "_law_bent" "_law_bent" (defArgs s_law_bent) (defBody s_law_bent) (defScope s_law_bent) .none kV63 dc63 pm63 an63 cd63 ct63), sl63⟩)
    (c63 : PySem.W.codeIn K cd63 "_law_bent" = true)
    (k63 : PySem.W.keepIn K (.ref f63) = true)
    (a64 : PySem.W.nsIn K mainGlobals "law" = some (some (.ref f64)))
    (l64 : K.lookup f64 = some ⟨oc64, od64, .func (PySem.W.fnOf "law" "law" (defArgs s_law) (defBody s_law) (defScope s_law) .none kV64 dc64 pm64 an64 cd64 ct64), sl64⟩)
    (c64 : PySem.W.codeIn K cd64 "law" = true)
    (k64 : PySem.W.keepIn K (.ref f64) = true)
    (z_ValueError : PySem.W.nsIn K mainGlobals "ValueError" = some none)
    (z_abs : PySem.W.nsIn K mainGlobals "abs" = some none)
    (z_all : PySem.W.nsIn K mainGlobals "all" = some none)
    (z_bool : PySem.W.nsIn K mainGlobals "bool" = some none)
    (z_dict : PySem.W.nsIn K mainGlobals "dict" = some none)
    (z_enumerate : PySem.W.nsIn K mainGlobals "enumerate" = some none)
    (z_int : PySem.W.nsIn K mainGlobals "int" = some none)
    (z_isinstance : PySem.W.nsIn K mainGlobals "isinstance" = some none)
    (z_len : PySem.W.nsIn K mainGlobals "len" = some none)
    (z_list : PySem.W.nsIn K mainGlobals "list" = some none)
    (z_range : PySem.W.nsIn K mainGlobals "range" = some none)
    (z_set : PySem.W.nsIn K mainGlobals "set" = some none)
    (z_sorted : PySem.W.nsIn K mainGlobals "sorted" = some none)
    (z_str : PySem.W.nsIn K mainGlobals "str" = some none)
    (z_tuple : PySem.W.nsIn K mainGlobals "tuple" = some none)
    (aIt : PySem.W.nsIn K mainGlobals "ITEMS" = some (some (.ref ai)))
    (lIt : K.lookup ai = some ⟨.type "dict", none, .dict es nI, #[]⟩)
    (eIt : es.toList.map (fun e => (e.key, e.val)) = [(.str "letter" i1, .int 2 j1), (.str "no" i2, .int 1 j2), (.str "and" i3, .int 3 j3), (.str "or" i4, .int 3 j4), (.str "if" i5, .int 3 j5), (.str "box" i6, .int 2 j6)])
    (kIt : PySem.W.KeysLit w.params es.toList)
    (sIt : (ai == sysModules) = false)
    (n_LAST_LETTER : PySem.W.nsIn K mainGlobals "LAST_LETTER" = some (some (.int 7 t_LAST_LETTER)))
    (n_MOST_PAPER_ROWS : PySem.W.nsIn K mainGlobals "MOST_PAPER_ROWS" = some (some (.int 5000 t_MOST_PAPER_ROWS)))
    (n_NO : PySem.W.nsIn K mainGlobals "NO" = some (some (.ref aNO)))
    (l_NO : K.lookup aNO = some ⟨.type "tuple", odNO, .seq #[.str "no" mNO0] nNO, slNO⟩)
    (n_LOGICS : PySem.W.nsIn K mainGlobals "LOGICS" = some (some (.ref aLOGICS)))
    (l_LOGICS : K.lookup aLOGICS = some ⟨.type "tuple", odLOGICS, .seq #[.str "classical" mLOGICS0, .str "intuit" mLOGICS1, .str "k" mLOGICS2, .str "s4" mLOGICS3, .str "gl" mLOGICS4] nLOGICS, slLOGICS⟩)
    (n_MODAL : PySem.W.nsIn K mainGlobals "MODAL" = some (some (.ref aMODAL)))
    (l_MODAL : K.lookup aMODAL = some ⟨.type "tuple", odMODAL, .seq #[.str "k" mMODAL0, .str "s4" mMODAL1, .str "gl" mMODAL2] nMODAL, slMODAL⟩)
    (aLo_ : PySem.W.nsIn K mainGlobals "LOGICS_OF" = some (some (.ref aLo)))
    (lLo : K.lookup aLo = some ⟨.type "dict", none, .dict es3 nLo, #[]⟩)
    (eLo : es3.toList.map (fun e => (e.key, e.val)) = [(.str "negative" lkneg, .ref ltneg), (.str "denied" lkden, .ref ltden), (.str "boxed" lkbox, .ref ltbox), (.str "doubled" lkdou, .ref ltdou), (.str "modal k" lkmk, .ref ltmk), (.str "modal s4" lkms, .ref ltms), (.str "modal gl" lkmg, .ref ltmg)])
    (kLo : PySem.W.KeysLit w.params es3.toList)
    (sLo : (aLo == sysModules) = false)
    (lLneg : K.lookup ltneg = some ⟨.type "tuple", odLneg, .seq #[.str "classical" mLneg1, .str "intuit" mLneg2] nLneg, slLneg⟩)
    (lLden : K.lookup ltden = some ⟨.type "tuple", odLden, .seq #[.str "classical" mLden1, .str "intuit" mLden2] nLden, slLden⟩)
    (lLbox : K.lookup ltbox = some ⟨.type "tuple", odLbox, .seq #[.str "intuit" mLbox1, .str "s4" mLbox2] nLbox, slLbox⟩)
    (lLdou : K.lookup ltdou = some ⟨.type "tuple", odLdou, .seq #[.str "intuit" mLdou1, .str "gl" mLdou2] nLdou, slLdou⟩)
    (lLmk : K.lookup ltmk = some ⟨.type "tuple", odLmk, .seq #[.str "classical" mLmk1, .str "k" mLmk2] nLmk, slLmk⟩)
    (lLms : K.lookup ltms = some ⟨.type "tuple", odLms, .seq #[.str "classical" mLms1, .str "s4" mLms2] nLms, slLms⟩)
    (lLmg : K.lookup ltmg = some ⟨.type "tuple", odLmg, .seq #[.str "classical" mLmg1, .str "gl" mLmg2] nLmg, slLmg⟩)
    (aRd : PySem.W.nsIn K mainGlobals "READERS" = some (some (.ref ar)))
    (lRd : K.lookup ar = some ⟨.type "dict", none, .dict es2 nR, #[]⟩)
    (kRd : PySem.W.KeysLit w.params es2.toList)
    (r_negative : PySem.W.nsIn K ar "negative" = some (some (.ref f19)))
    (r_boxed : PySem.W.nsIn K ar "boxed" = some (some (.ref f20)))
    (r_doubled : PySem.W.nsIn K ar "doubled" = some (some (.ref f21)))
    (aG_ : PySem.W.nsIn K mainGlobals "Growing" = some (some (.ref aG)))
    (aGinit : PySem.W.findIn K (.ref aG) "__init__" = some (some (.ref fGinit)))
    (iGinit : PySem.W.isFn K (.ref fGinit) = true)
    (lGinit : K.lookup fGinit = some ⟨ocGinit, odGinit, .func (PySem.W.fnOf "__init__" "Growing.__init__" (defArgs s_Growing_init) (defBody s_Growing_init) (defScope s_Growing_init) .none kVGinit dcGinit pmGinit anGinit cdGinit ctGinit), slGinit⟩)
    (cGinit : PySem.W.codeIn K cdGinit "Growing.__init__" = true)
    (kGinit : PySem.W.keepIn K (.ref fGinit) = true)
    (aGnode_row : PySem.W.findIn K (.ref aG) "node_row" = some (some (.ref fGnode_row)))
    (iGnode_row : PySem.W.isFn K (.ref fGnode_row) = true)
    (lGnode_row : K.lookup fGnode_row = some ⟨ocGnode_row, odGnode_row, .func (PySem.W.fnOf "node_row" "Growing.node_row" (defArgs s_Growing_node_row) (defBody s_Growing_node_row) (defScope s_Growing_node_row) .none kVGnode_row dcGnode_row pmGnode_row anGnode_row cdGnode_row ctGnode_row), slGnode_row⟩)
    (cGnode_row : PySem.W.codeIn K cdGnode_row "Growing.node_row" = true)
    (kGnode_row : PySem.W.keepIn K (.ref fGnode_row) = true)
    (aGdeny : PySem.W.findIn K (.ref aG) "deny" = some (some (.ref fGdeny)))
    (iGdeny : PySem.W.isFn K (.ref fGdeny) = true)
    (lGdeny : K.lookup fGdeny = some ⟨ocGdeny, odGdeny, .func (PySem.W.fnOf "deny" "Growing.deny" (defArgs s_Growing_deny) (defBody s_Growing_deny) (defScope s_Growing_deny) .none kVGdeny dcGdeny pmGdeny anGdeny cdGdeny ctGdeny), slGdeny⟩)
    (cGdeny : PySem.W.codeIn K cdGdeny "Growing.deny" = true)
    (kGdeny : PySem.W.keepIn K (.ref fGdeny) = true)
    (gpg : PySem.W.plainGet K aG Str.empty = true)
    (ghd : PySem.W.hasDictIn K aG = true)
    (gpo : PySem.W.plainOver K aG = true)
    (gsa : PySem.W.findIn K (.ref aG) "__setattr__" = some (some (.builtin "object.__setattr__")))
    (gmk : PySem.W.makesIn K aG = true)
    (gkc : PySem.W.keepIn K (.ref aG) = true)
    (gnS : PySem.W.findIn K (.ref aG) "sheet" = some none)
    (gnT : PySem.W.findIn K (.ref aG) "table" = some none)
    (a_BadLogic : PySem.W.nsIn K mainGlobals "BadLogic" = some (some (.ref cBadLogic)))
    (a_BadSheet : PySem.W.nsIn K mainGlobals "BadSheet" = some (some (.ref cBadSheet)))
    (a_BadClaim : PySem.W.nsIn K mainGlobals "BadClaim" = some (some (.ref cBadClaim)))
    (a_BadModel : PySem.W.nsIn K mainGlobals "BadModel" = some (some (.ref cBadModel)))
    (a_BadPaper : PySem.W.nsIn K mainGlobals "BadPaper" = some (some (.ref cBadPaper)))
    (a_BadTerm : PySem.W.nsIn K mainGlobals "BadTerm" = some (some (.ref cBadTerm)))
    (a_BadEdit : PySem.W.nsIn K mainGlobals "BadEdit" = some (some (.ref cBadEdit)))
    (a_BadValue : PySem.W.nsIn K mainGlobals "BadValue" = some (some (.ref cBadValue)))
    (a_BadText : PySem.W.nsIn K mainGlobals "BadText" = some (some (.ref cBadText)))
    (a_BadSize : PySem.W.nsIn K mainGlobals "BadSize" = some (some (.ref cBadSize)))
    (a_TooMany : PySem.W.nsIn K mainGlobals "TooMany" = some (some (.ref cTooMany)))
    (a_NotBoxed : PySem.W.nsIn K mainGlobals "NotBoxed" = some (some (.ref cNotBoxed)))
    (a_NotProved : PySem.W.nsIn K mainGlobals "NotProved" = some (some (.ref cNotProved)))
    (a_NotThere : PySem.W.nsIn K mainGlobals "NotThere" = some (some (.ref cNotThere)))
    (a_NothingToUndo : PySem.W.nsIn K mainGlobals "NothingToUndo" = some (some (.ref cNothingToUndo)))
    (a_NothingToRedo : PySem.W.nsIn K mainGlobals "NothingToRedo" = some (some (.ref cNothingToRedo)))
    (a_CourtError : PySem.W.nsIn K mainGlobals "CourtError" = some (some (.ref CE)))
    (t_BadLogic : PySem.W.typeIn K (.ref cBadLogic) = some (.type "type"))
    (h_BadLogic : PySem.W.hasDictIn K cBadLogic = true)
    (t_BadSheet : PySem.W.typeIn K (.ref cBadSheet) = some (.type "type"))
    (h_BadSheet : PySem.W.hasDictIn K cBadSheet = true)
    (t_BadClaim : PySem.W.typeIn K (.ref cBadClaim) = some (.type "type"))
    (h_BadClaim : PySem.W.hasDictIn K cBadClaim = true)
    (t_BadModel : PySem.W.typeIn K (.ref cBadModel) = some (.type "type"))
    (h_BadModel : PySem.W.hasDictIn K cBadModel = true)
    (t_BadPaper : PySem.W.typeIn K (.ref cBadPaper) = some (.type "type"))
    (h_BadPaper : PySem.W.hasDictIn K cBadPaper = true)
    (t_BadTerm : PySem.W.typeIn K (.ref cBadTerm) = some (.type "type"))
    (h_BadTerm : PySem.W.hasDictIn K cBadTerm = true)
    (t_BadEdit : PySem.W.typeIn K (.ref cBadEdit) = some (.type "type"))
    (h_BadEdit : PySem.W.hasDictIn K cBadEdit = true)
    (t_BadValue : PySem.W.typeIn K (.ref cBadValue) = some (.type "type"))
    (h_BadValue : PySem.W.hasDictIn K cBadValue = true)
    (t_BadText : PySem.W.typeIn K (.ref cBadText) = some (.type "type"))
    (h_BadText : PySem.W.hasDictIn K cBadText = true)
    (t_BadSize : PySem.W.typeIn K (.ref cBadSize) = some (.type "type"))
    (h_BadSize : PySem.W.hasDictIn K cBadSize = true)
    (t_TooMany : PySem.W.typeIn K (.ref cTooMany) = some (.type "type"))
    (h_TooMany : PySem.W.hasDictIn K cTooMany = true)
    (t_NotBoxed : PySem.W.typeIn K (.ref cNotBoxed) = some (.type "type"))
    (h_NotBoxed : PySem.W.hasDictIn K cNotBoxed = true)
    (t_NotProved : PySem.W.typeIn K (.ref cNotProved) = some (.type "type"))
    (h_NotProved : PySem.W.hasDictIn K cNotProved = true)
    (t_NotThere : PySem.W.typeIn K (.ref cNotThere) = some (.type "type"))
    (h_NotThere : PySem.W.hasDictIn K cNotThere = true)
    (t_NothingToUndo : PySem.W.typeIn K (.ref cNothingToUndo) = some (.type "type"))
    (h_NothingToUndo : PySem.W.hasDictIn K cNothingToUndo = true)
    (t_NothingToRedo : PySem.W.typeIn K (.ref cNothingToRedo) = some (.type "type"))
    (h_NothingToRedo : PySem.W.hasDictIn K cNothingToRedo = true)
    (t_CourtError : PySem.W.typeIn K (.ref CE) = some (.type "type"))
    (h_CourtError : PySem.W.hasDictIn K CE = true)
    (bC : PySem.W.subIn K (.ref CE) (.type "BaseException") = some true)
    (spc : PySem.W.specialIn K (.builtin "object.__class__") "__get__" = some (some (.builtin "getset_descriptor.__get__")))
    (tkc : PySem.W.takesIn K (.builtin "object.__class__") = some true)
    (s_BadSheet_BadLogic : PySem.W.subIn K (.ref cBadSheet) (.ref cBadLogic) = some false)
    (s_BadSheet_BadSheet : PySem.W.subIn K (.ref cBadSheet) (.ref cBadSheet) = some true)
    (s_BadSheet_BadClaim : PySem.W.subIn K (.ref cBadSheet) (.ref cBadClaim) = some false)
    (s_BadSheet_BadModel : PySem.W.subIn K (.ref cBadSheet) (.ref cBadModel) = some false)
    (s_BadSheet_BadPaper : PySem.W.subIn K (.ref cBadSheet) (.ref cBadPaper) = some false)
    (s_BadSheet_BadTerm : PySem.W.subIn K (.ref cBadSheet) (.ref cBadTerm) = some false)
    (s_BadSheet_BadEdit : PySem.W.subIn K (.ref cBadSheet) (.ref cBadEdit) = some false)
    (s_BadSheet_BadValue : PySem.W.subIn K (.ref cBadSheet) (.ref cBadValue) = some false)
    (s_BadSheet_BadText : PySem.W.subIn K (.ref cBadSheet) (.ref cBadText) = some false)
    (s_BadSheet_BadSize : PySem.W.subIn K (.ref cBadSheet) (.ref cBadSize) = some false)
    (s_BadSheet_TooMany : PySem.W.subIn K (.ref cBadSheet) (.ref cTooMany) = some false)
    (s_BadSheet_NotBoxed : PySem.W.subIn K (.ref cBadSheet) (.ref cNotBoxed) = some false)
    (s_BadSheet_NotProved : PySem.W.subIn K (.ref cBadSheet) (.ref cNotProved) = some false)
    (s_BadSheet_NotThere : PySem.W.subIn K (.ref cBadSheet) (.ref cNotThere) = some false)
    (s_BadSheet_NothingToUndo : PySem.W.subIn K (.ref cBadSheet) (.ref cNothingToUndo) = some false)
    (s_BadSheet_NothingToRedo : PySem.W.subIn K (.ref cBadSheet) (.ref cNothingToRedo) = some false)
    (s_BadSheet_CourtError : PySem.W.subIn K (.ref cBadSheet) (.ref CE) = some true)
    (vBadSheet : PySem.W.subIn K (.ref cBadSheet) (.type "ValueError") = some true)
    (bBadSheet : PySem.W.subIn K (.ref cBadSheet) (.type "BaseException") = some true)
    (gaBadSheet : PySem.W.findIn K (.ref cBadSheet) "__getattribute__" = some (some (.builtin "BaseException.__getattribute__")))
    (ggBadSheet : PySem.W.findIn K (.ref cBadSheet) "__getattr__" = some none)
    (gcBadSheet : PySem.W.findIn K (.ref cBadSheet) "__class__" = some (some (.builtin "object.__class__")))
    (moBadSheet : PySem.W.mroIn K cBadSheet (.type "object") = some true)
    (kpBadSheet : PySem.W.keepIn K (.ref cBadSheet) = true)
    (xSBadSheet : ∃ nm q N bs bm sn sub ab col dd k0 k1 k2 k3 k5, K.lookup cBadSheet = some (excClassObj nm q cBadSheet N bs bm true sn sub ab col dd k0 k1 k2 k3 k5 "ValueError.__new__") ∧ PySem.HandSPX.refsVE bm = true)
    (saBadSheet : PySem.W.findIn K (.ref cBadSheet) "__setattr__" = some (some (.builtin "object.__setattr__")))
    (noBadSheet : PySem.W.findIn K (.ref cBadSheet) "row" = some none)
    (iBadSheet : PySem.W.findIn K (.ref cBadSheet) "__init__" = some (some (.ref fEBadSheet)))
    (tIBadSheet : PySem.W.typeIn K (.ref fEBadSheet) = some (.type "function"))
    (lEBadSheet : K.lookup fEBadSheet = some ⟨ocEBadSheet, odEBadSheet, .func (PySem.W.fnOf "__init__" "BadSheet.__init__" (defArgs s_BadSheet) (defBody s_BadSheet) (defScope s_BadSheet) .none kVEBadSheet dcEBadSheet pmEBadSheet anEBadSheet cdEBadSheet ctEBadSheet), slEBadSheet⟩)
    (cEBadSheet : PySem.W.codeIn K cdEBadSheet "BadSheet.__init__" = true)
    (kEBadSheet : PySem.W.keepIn K (.ref fEBadSheet) = true)
    (s_BadValue_BadLogic : PySem.W.subIn K (.ref cBadValue) (.ref cBadLogic) = some false)
    (s_BadValue_BadSheet : PySem.W.subIn K (.ref cBadValue) (.ref cBadSheet) = some false)
    (s_BadValue_BadClaim : PySem.W.subIn K (.ref cBadValue) (.ref cBadClaim) = some false)
    (s_BadValue_BadModel : PySem.W.subIn K (.ref cBadValue) (.ref cBadModel) = some false)
    (s_BadValue_BadPaper : PySem.W.subIn K (.ref cBadValue) (.ref cBadPaper) = some false)
    (s_BadValue_BadTerm : PySem.W.subIn K (.ref cBadValue) (.ref cBadTerm) = some false)
    (s_BadValue_BadEdit : PySem.W.subIn K (.ref cBadValue) (.ref cBadEdit) = some false)
    (s_BadValue_BadValue : PySem.W.subIn K (.ref cBadValue) (.ref cBadValue) = some true)
    (s_BadValue_BadText : PySem.W.subIn K (.ref cBadValue) (.ref cBadText) = some false)
    (s_BadValue_BadSize : PySem.W.subIn K (.ref cBadValue) (.ref cBadSize) = some false)
    (s_BadValue_TooMany : PySem.W.subIn K (.ref cBadValue) (.ref cTooMany) = some false)
    (s_BadValue_NotBoxed : PySem.W.subIn K (.ref cBadValue) (.ref cNotBoxed) = some false)
    (s_BadValue_NotProved : PySem.W.subIn K (.ref cBadValue) (.ref cNotProved) = some false)
    (s_BadValue_NotThere : PySem.W.subIn K (.ref cBadValue) (.ref cNotThere) = some false)
    (s_BadValue_NothingToUndo : PySem.W.subIn K (.ref cBadValue) (.ref cNothingToUndo) = some false)
    (s_BadValue_NothingToRedo : PySem.W.subIn K (.ref cBadValue) (.ref cNothingToRedo) = some false)
    (s_BadValue_CourtError : PySem.W.subIn K (.ref cBadValue) (.ref CE) = some true)
    (vBadValue : PySem.W.subIn K (.ref cBadValue) (.type "ValueError") = some true)
    (bBadValue : PySem.W.subIn K (.ref cBadValue) (.type "BaseException") = some true)
    (gaBadValue : PySem.W.findIn K (.ref cBadValue) "__getattribute__" = some (some (.builtin "BaseException.__getattribute__")))
    (ggBadValue : PySem.W.findIn K (.ref cBadValue) "__getattr__" = some none)
    (gcBadValue : PySem.W.findIn K (.ref cBadValue) "__class__" = some (some (.builtin "object.__class__")))
    (moBadValue : PySem.W.mroIn K cBadValue (.type "object") = some true)
    (kpBadValue : PySem.W.keepIn K (.ref cBadValue) = true)
    (xSBadValue : ∃ nm q N bs bm sn sub ab col dd k0 k1 k2 k3 k5, K.lookup cBadValue = some (excClassObj nm q cBadValue N bs bm true sn sub ab col dd k0 k1 k2 k3 k5 "ValueError.__new__") ∧ PySem.HandSPX.refsVE bm = true)
    (saBadValue : PySem.W.findIn K (.ref cBadValue) "__setattr__" = some (some (.builtin "object.__setattr__")))
    (noBadValue : PySem.W.findIn K (.ref cBadValue) "name" = some none)
    (iBadValue : PySem.W.findIn K (.ref cBadValue) "__init__" = some (some (.ref fEBadValue)))
    (tIBadValue : PySem.W.typeIn K (.ref fEBadValue) = some (.type "function"))
    (lEBadValue : K.lookup fEBadValue = some ⟨ocEBadValue, odEBadValue, .func (PySem.W.fnOf "__init__" "BadValue.__init__" (defArgs s_BadValue) (defBody s_BadValue) (defScope s_BadValue) .none kVEBadValue dcEBadValue pmEBadValue anEBadValue cdEBadValue ctEBadValue), slEBadValue⟩)
    (cEBadValue : PySem.W.codeIn K cdEBadValue "BadValue.__init__" = true)
    (kEBadValue : PySem.W.keepIn K (.ref fEBadValue) = true)
    (s_BadClaim_BadLogic : PySem.W.subIn K (.ref cBadClaim) (.ref cBadLogic) = some false)
    (s_BadClaim_BadSheet : PySem.W.subIn K (.ref cBadClaim) (.ref cBadSheet) = some false)
    (s_BadClaim_BadClaim : PySem.W.subIn K (.ref cBadClaim) (.ref cBadClaim) = some true)
    (s_BadClaim_BadModel : PySem.W.subIn K (.ref cBadClaim) (.ref cBadModel) = some false)
    (s_BadClaim_BadPaper : PySem.W.subIn K (.ref cBadClaim) (.ref cBadPaper) = some false)
    (s_BadClaim_BadTerm : PySem.W.subIn K (.ref cBadClaim) (.ref cBadTerm) = some false)
    (s_BadClaim_BadEdit : PySem.W.subIn K (.ref cBadClaim) (.ref cBadEdit) = some false)
    (s_BadClaim_BadValue : PySem.W.subIn K (.ref cBadClaim) (.ref cBadValue) = some false)
    (s_BadClaim_BadText : PySem.W.subIn K (.ref cBadClaim) (.ref cBadText) = some false)
    (s_BadClaim_BadSize : PySem.W.subIn K (.ref cBadClaim) (.ref cBadSize) = some false)
    (s_BadClaim_TooMany : PySem.W.subIn K (.ref cBadClaim) (.ref cTooMany) = some false)
    (s_BadClaim_NotBoxed : PySem.W.subIn K (.ref cBadClaim) (.ref cNotBoxed) = some false)
    (s_BadClaim_NotProved : PySem.W.subIn K (.ref cBadClaim) (.ref cNotProved) = some false)
    (s_BadClaim_NotThere : PySem.W.subIn K (.ref cBadClaim) (.ref cNotThere) = some false)
    (s_BadClaim_NothingToUndo : PySem.W.subIn K (.ref cBadClaim) (.ref cNothingToUndo) = some false)
    (s_BadClaim_NothingToRedo : PySem.W.subIn K (.ref cBadClaim) (.ref cNothingToRedo) = some false)
    (s_BadClaim_CourtError : PySem.W.subIn K (.ref cBadClaim) (.ref CE) = some true)
    (vBadClaim : PySem.W.subIn K (.ref cBadClaim) (.type "ValueError") = some true)
    (bBadClaim : PySem.W.subIn K (.ref cBadClaim) (.type "BaseException") = some true)
    (gaBadClaim : PySem.W.findIn K (.ref cBadClaim) "__getattribute__" = some (some (.builtin "BaseException.__getattribute__")))
    (ggBadClaim : PySem.W.findIn K (.ref cBadClaim) "__getattr__" = some none)
    (gcBadClaim : PySem.W.findIn K (.ref cBadClaim) "__class__" = some (some (.builtin "object.__class__")))
    (moBadClaim : PySem.W.mroIn K cBadClaim (.type "object") = some true)
    (kpBadClaim : PySem.W.keepIn K (.ref cBadClaim) = true)
    (xSBadClaim : ∃ nm q N bs bm sn sub ab col dd k0 k1 k2 k3 k5, K.lookup cBadClaim = some (excClassObj nm q cBadClaim N bs bm true sn sub ab col dd k0 k1 k2 k3 k5 "ValueError.__new__") ∧ PySem.HandSPX.refsVE bm = true)
    (saBadClaim : PySem.W.findIn K (.ref cBadClaim) "__setattr__" = some (some (.builtin "object.__setattr__")))
    (noBadClaim : PySem.W.findIn K (.ref cBadClaim) "word" = some none)
    (iBadClaim : PySem.W.findIn K (.ref cBadClaim) "__init__" = some (some (.ref fEBadClaim)))
    (tIBadClaim : PySem.W.typeIn K (.ref fEBadClaim) = some (.type "function"))
    (lEBadClaim : K.lookup fEBadClaim = some ⟨ocEBadClaim, odEBadClaim, .func (PySem.W.fnOf "__init__" "BadClaim.__init__" (defArgs s_BadClaim) (defBody s_BadClaim) (defScope s_BadClaim) .none kVEBadClaim dcEBadClaim pmEBadClaim anEBadClaim cdEBadClaim ctEBadClaim), slEBadClaim⟩)
    (cEBadClaim : PySem.W.codeIn K cdEBadClaim "BadClaim.__init__" = true)
    (kEBadClaim : PySem.W.keepIn K (.ref fEBadClaim) = true) :
    ∃ fd : FuncData, (∀ (s : Shared) (v : Value), BindsTo s fd ⟨[v], []⟩ [("script", v)]) ∧ ∀ base : Heap, K.In base → base.Ns mainGlobals mg → FnOk P w K mg base CX0 18 fa fd ["script"] (spLaw K) := by
  have e := hfa.symm.trans (PySem.W.mg_of X G a64)
  cases e
  letI : KW := kwOf K P w
  have W : KWOk K w := ⟨fun a vs h => h, fun P2 ks => rfl⟩
  have F1 := fun_mk (st := s_is_integer) l1 c1 k1
  have B1 := F1.binds (ps := ["value"]) fun _ _ _ _ _ _ us hl => match us, hl with | [_], _ => rfl
  have F2 := fun_mk (st := s_is_between) l2 c2 k2
  have B2 := F2.binds (ps := ["value", "low", "high"]) fun _ _ _ _ _ _ us hl => match us, hl with | [_, _, _], _ => rfl
  have F3 := fun_mk (st := s_is_tuple_of) l3 c3 k3
  have B3 := F3.binds (ps := ["value", "many"]) fun _ _ _ _ _ _ us hl => match us, hl with | [_, _], _ => rfl
  have F4 := fun_mk (st := s_are_any_rows) l4 c4 k4
  have B4 := F4.binds (ps := ["value", "count"]) fun _ _ _ _ _ _ us hl => match us, hl with | [_, _], _ => rfl
  have F5 := fun_mk (st := s_is_rising) l5 c5 k5
  have B5 := F5.binds (ps := ["values"]) fun _ _ _ _ _ _ us hl => match us, hl with | [_], _ => rfl
  have F6 := fun_mk (st := s_are_rows) l6 c6 k6
  have B6 := F6.binds (ps := ["value", "count"]) fun _ _ _ _ _ _ us hl => match us, hl with | [_, _], _ => rfl
  have F7 := fun_mk (st := s_check_logic) l7 c7 k7
  have B7 := F7.binds (ps := ["logic"]) fun _ _ _ _ _ _ us hl => match us, hl with | [_], _ => rfl
  have F8 := fun_mk (st := s_is_boxed) l8 c8 k8
  have B8 := F8.binds (ps := ["logic"]) fun _ _ _ _ _ _ us hl => match us, hl with | [_], _ => rfl
  have F9 := fun_mk (st := s_is_node) l9 c9 k9
  have B9 := F9.binds (ps := ["value", "row", "boxed"]) fun _ _ _ _ _ _ us hl => match us, hl with | [_, _, _], _ => rfl
  have F10 := fun_mk (st := s_wrong_row) l10 c10 k10
  have B10 := F10.binds (ps := ["value", "most", "boxed"]) fun _ _ _ _ _ _ us hl => match us, hl with | [_, _, _], _ => rfl
  have F11 := fun_mk (st := s_check_rows_of) l11 c11 k11
  have B11 := F11.binds (ps := ["sheet", "most", "boxed"]) fun _ _ _ _ _ _ us hl => match us, hl with | [_, _, _], _ => rfl
  have F12 := fun_mk (st := s_parts) l12 c12 k12
  have B12 := F12.binds (ps := ["node"]) fun _ _ _ _ _ _ us hl => match us, hl with | [_], _ => rfl
  have F13 := fun_mk (st := s_rows_below) l13 c13 k13
  have B13 := F13.binds (ps := ["sheet", "rows"]) fun _ _ _ _ _ _ us hl => match us, hl with | [_, _], _ => rfl
  have F14 := fun_mk (st := s_places) l14 c14 k14
  have B14 := F14.binds (ps := ["sheet"]) fun _ _ _ _ _ _ us hl => match us, hl with | [_], _ => rfl
  have F15 := fun_mk (st := s_row_for) l15 c15 k15
  have B15 := F15.binds (ps := ["sheet", "table", "node"]) fun _ _ _ _ _ _ us hl => match us, hl with | [_, _, _], _ => rfl
  have F16 := fun_mk (st := s_check_claim_to) l16 c16 k16
  have B16 := F16.binds (ps := ["logic", "claim", "most"]) fun _ _ _ _ _ _ us hl => match us, hl with | [_, _, _], _ => rfl
  have F17 := fun_mk (st := s_check_any_claim) l17 c17 k17
  have B17 := F17.binds (ps := ["logic", "claim"]) fun _ _ _ _ _ _ us hl => match us, hl with | [_, _], _ => rfl
  have F18 := fun_mk (st := s_same_word) l18 c18 k18
  have B18 := F18.binds (ps := ["growing", "node", "new"]) fun _ _ _ _ _ _ us hl => match us, hl with | [_, _, _], _ => rfl
  have F19 := fun_mk (st := s_negative_row) l19 c19 k19
  have B19 := F19.binds (ps := ["growing", "row", "node", "new"]) fun _ _ _ _ _ _ us hl => match us, hl with | [_, _, _, _], _ => rfl
  have F20 := fun_mk (st := s_boxed_row) l20 c20 k20
  have B20 := F20.binds (ps := ["growing", "row", "node", "new"]) fun _ _ _ _ _ _ us hl => match us, hl with | [_, _, _, _], _ => rfl
  have F21 := fun_mk (st := s_doubled_row) l21 c21 k21
  have B21 := F21.binds (ps := ["growing", "row", "node", "new"]) fun _ _ _ _ _ _ us hl => match us, hl with | [_, _, _, _], _ => rfl
  have F22 := fun_mk (st := s_grown) l22 c22 k22
  have B22 := F22.binds (ps := ["growing", "rows", "word"]) fun _ _ _ _ _ _ us hl => match us, hl with | [_, _, _], _ => rfl
  have F23 := fun_mk (st := s_logics_of) l23 c23 k23
  have B23 := F23.binds (ps := ["reading"]) fun _ _ _ _ _ _ us hl => match us, hl with | [_], _ => rfl
  have F24 := fun_mk (st := s_ascending) l24 c24 k24
  have B24 := F24.binds (ps := ["rows"]) fun _ _ _ _ _ _ us hl => match us, hl with | [_], _ => rfl
  have F25 := fun_mk (st := s_grown_twice) l25 c25 k25
  have B25 := F25.binds (ps := ["growing", "rows"]) fun _ _ _ _ _ _ us hl => match us, hl with | [_, _], _ => rfl
  have F26 := fun_mk (st := s_read_sides) l26 c26 k26
  have B26 := F26.binds (ps := ["reading", "growing", "left", "right"]) fun _ _ _ _ _ _ us hl => match us, hl with | [_, _, _, _], _ => rfl
  have F27 := fun_mk (st := s_read_claim_of) l27 c27 k27
  have B27 := F27.binds (ps := ["reading", "claim"]) fun _ _ _ _ _ _ us hl => match us, hl with | [_, _], _ => rfl
  have F28 := fun_mk (st := s_reading_of) l28 c28 k28
  have B28 := F28.binds (ps := ["reading", "claim"]) fun _ _ _ _ _ _ us hl => match us, hl with | [_, _], _ => rfl
  have F29 := fun_mk (st := s_law_stream) l29 c29 k29
  have B29 := F29.binds (ps := ["script"]) fun _ _ _ _ _ _ us hl => match us, hl with | [_], _ => rfl
  have F30 := fun_mk (st := s_law_next) l30 c30 k30
  have B30 := F30.binds (ps := ["stream", "many"]) fun _ _ _ _ _ _ us hl => match us, hl with | [_, _], _ => rfl
  have F31 := fun_mk (st := s_law_pick) l31 c31 k31
  have B31 := F31.binds (ps := ["stream", "rows"]) fun _ _ _ _ _ _ us hl => match us, hl with | [_, _], _ => rfl
  have F32 := fun_mk (st := s_law_from) l32 c32 k32
  have B32 := F32.binds (ps := ["stream", "low", "high"]) fun _ _ _ _ _ _ us hl => match us, hl with | [_, _, _], _ => rfl
  have F33 := fun_mk (st := s_law_some) l33 c33 k33
  have B33 := F33.binds (ps := ["stream", "rows", "share"]) fun _ _ _ _ _ _ us hl => match us, hl with | [_, _, _], _ => rfl
  have F34 := fun_mk (st := s_law_number) l34 c34 k34
  have B34 := F34.binds (ps := ["value", "low", "high"]) fun _ _ _ _ _ _ us hl => match us, hl with | [_, _, _], _ => rfl
  have F35 := fun_mk (st := s_law_same) l35 c35 k35
  have B35 := F35.binds (ps := ["actual", "due"]) fun _ _ _ _ _ _ us hl => match us, hl with | [_, _], _ => rfl
  have F36 := fun_mk (st := s_law_copy) l36 c36 k36
  have B36 := F36.binds (ps := ["value"]) fun _ _ _ _ _ _ us hl => match us, hl with | [_], _ => rfl
  have F37 := fun_mk (st := s_law_named) l37 c37 k37
  have B37 := F37.binds (ps := ["error"]) fun _ _ _ _ _ _ us hl => match us, hl with | [_], _ => rfl
  have F38 := fun_mk (st := s_law_book) l38 c38 k38
  have B38 := F38.binds (ps := ["sheet"]) fun _ _ _ _ _ _ us hl => match us, hl with | [_], _ => rfl
  have F39 := fun_mk (st := s_law_row) l39 c39 k39
  have B39 := F39.binds (ps := ["book", "node"]) fun _ _ _ _ _ _ us hl => match us, hl with | [_, _], _ => rfl
  have F40 := fun_mk (st := s_law_parts) l40 c40 k40
  have B40 := F40.binds (ps := ["node"]) fun _ _ _ _ _ _ us hl => match us, hl with | [_], _ => rfl
  have F41 := fun_mk (st := s_law_below) l41 c41 k41
  have B41 := F41.binds (ps := ["sheet", "rows"]) fun _ _ _ _ _ _ us hl => match us, hl with | [_, _], _ => rfl
  have F42 := fun_mk (st := s_law_moved) l42 c42 k42
  have B42 := F42.binds (ps := ["node", "new"]) fun _ _ _ _ _ _ us hl => match us, hl with | [_, _], _ => rfl
  have F43 := fun_mk (st := s_law_not) l43 c43 k43
  have B43 := F43.binds (ps := ["book", "row"]) fun _ _ _ _ _ _ us hl => match us, hl with | [_, _], _ => rfl
  have F44 := fun_mk (st := s_law_leaf) l44 c44 k44
  have B44 := F44.binds (ps := ["stream", "book", "letters"]) fun _ _ _ _ _ _ us hl => match us, hl with | [_, _, _], _ => rfl
  have F45 := fun_mk (st := s_law_tree) l45 c45 k45
  have B45 := F45.binds (ps := ["stream", "book", "letters", "many", "boxed"]) fun _ _ _ _ _ _ us hl => match us, hl with | [_, _, _, _, _], _ => rfl
  have F46 := fun_mk (st := s_law_heap) l46 c46 k46
  have B46 := F46.binds (ps := ["stream", "book", "letters", "many", "boxed"]) fun _ _ _ _ _ _ us hl => match us, hl with | [_, _, _, _, _], _ => rfl
  have F47 := fun_mk (st := s_law_formula) l47 c47 k47
  have B47 := F47.binds (ps := ["stream", "book", "letters", "many", "boxed"]) fun _ _ _ _ _ _ us hl => match us, hl with | [_, _, _, _, _], _ => rfl
  have F48 := fun_mk (st := s_law_is_rows) l48 c48 k48
  have B48 := F48.binds (ps := ["value", "many"]) fun _ _ _ _ _ _ us hl => match us, hl with | [_, _], _ => rfl
  have F49 := fun_mk (st := s_law_is_node) l49 c49 k49
  have B49 := F49.binds (ps := ["value", "at", "boxed"]) fun _ _ _ _ _ _ us hl => match us, hl with | [_, _, _], _ => rfl
  have F50 := fun_mk (st := s_law_wrong_row) l50 c50 k50
  have B50 := F50.binds (ps := ["value", "most", "boxed"]) fun _ _ _ _ _ _ us hl => match us, hl with | [_, _, _], _ => rfl
  have F51 := fun_mk (st := s_law_reading_row) l51 c51 k51
  have B51 := F51.binds (ps := ["word", "book", "at", "new"]) fun _ _ _ _ _ _ us hl => match us, hl with | [_, _, _, _], _ => rfl
  have F52 := fun_mk (st := s_law_read) l52 c52 k52
  have B52 := F52.binds (ps := ["word", "book", "rows"]) fun _ _ _ _ _ _ us hl => match us, hl with | [_, _, _], _ => rfl
  have F53 := fun_mk (st := s_law_read_claim) l53 c53 k53
  have B53 := F53.binds (ps := ["reading", "claim"]) fun _ _ _ _ _ _ us hl => match us, hl with | [_, _], _ => rfl
  have F54 := fun_mk (st := s_law_logics) l54 c54 k54
  have B54 := F54.binds (ps := ["reading"]) fun _ _ _ _ _ _ us hl => match us, hl with | [_], _ => rfl
  have F55 := fun_mk (st := s_law_claim_error) l55 c55 k55
  have B55 := F55.binds (ps := ["claim"]) fun _ _ _ _ _ _ us hl => match us, hl with | [_], _ => rfl
  have F56 := fun_mk (st := s_law_long) l56 c56 k56
  have B56 := F56.binds (ps := ["stream", "many", "words"]) fun _ _ _ _ _ _ us hl => match us, hl with | [_, _, _], _ => rfl
  have F57 := fun_mk (st := s_law_due) l57 c57 k57
  have B57 := F57.binds (ps := ["reading", "claim"]) fun _ _ _ _ _ _ us hl => match us, hl with | [_, _], _ => rfl
  have F58 := fun_mk (st := s_law_asked) l58 c58 k58
  have B58 := F58.binds (ps := ["reading", "claim"]) fun _ _ _ _ _ _ us hl => match us, hl with | [_, _], _ => rfl
  have F59 := fun_mk (st := s_law_asked_logics) l59 c59 k59
  have B59 := F59.binds (ps := ["reading"]) fun _ _ _ _ _ _ us hl => match us, hl with | [_], _ => rfl
  have F60 := fun_mk (st := s_law_sides) l60 c60 k60
  have B60 := F60.binds (ps := ["stream", "many"]) fun _ _ _ _ _ _ us hl => match us, hl with | [_, _], _ => rfl
  have F61 := fun_mk (st := s_law_twins) l61 c61 k61
  have B61 := F61.binds (ps := ["stream", "book"]) fun _ _ _ _ _ _ us hl => match us, hl with | [_, _], _ => rfl
  have F62 := fun_mk (st := s_law_claim) l62 c62 k62
  have B62 := F62.binds (ps := ["stream"]) fun _ _ _ _ _ _ us hl => match us, hl with | [_], _ => rfl
  have F63 := fun_mk (st := s_law_bent) l63 c63 k63
  have B63 := F63.binds (ps := ["stream", "claim"]) fun _ _ _ _ _ _ us hl => match us, hl with | [_, _], _ => rfl
  have F64 := fun_mk (st := s_law) l64 c64 k64
  have B64 := F64.binds (ps := ["script"]) fun _ _ _ _ _ _ us hl => match us, hl with | [_], _ => rfl
  have FGinit := fun_mk (st := s_Growing_init) lGinit cGinit kGinit
  have BGinit := FGinit.binds (ps := ["self", "sheet"]) fun _ _ _ _ _ _ us hl => match us, hl with | [_, _], _ => rfl
  have FGnode_row := fun_mk (st := s_Growing_node_row) lGnode_row cGnode_row kGnode_row
  have BGnode_row := FGnode_row.binds (ps := ["self", "node"]) fun _ _ _ _ _ _ us hl => match us, hl with | [_, _], _ => rfl
  have FGdeny := fun_mk (st := s_Growing_deny) lGdeny cGdeny kGdeny
  have BGdeny := FGdeny.binds (ps := ["self", "row"]) fun _ _ _ _ _ _ us hl => match us, hl with | [_, _], _ => rfl
  have FEBadSheet := fun_mk (st := s_BadSheet) lEBadSheet cEBadSheet kEBadSheet
  have BEBadSheet := FEBadSheet.binds (ps := ["self", "row"]) fun _ _ _ _ _ _ us hl => match us, hl with | [_, _], _ => rfl
  have FEBadValue := fun_mk (st := s_BadValue) lEBadValue cEBadValue kEBadValue
  have BEBadValue := FEBadValue.binds (ps := ["self", "name"]) fun _ _ _ _ _ _ us hl => match us, hl with | [_, _], _ => rfl
  have FEBadClaim := fun_mk (st := s_BadClaim) lEBadClaim cEBadClaim kEBadClaim
  have BEBadClaim := FEBadClaim.binds (ps := ["self", "word"]) fun _ _ _ _ _ _ us hl => match us, hl with | [_, _], _ => rfl
  have T : Txt K mg := ⟨PySem.W.mg_none_of X G z_ValueError, PySem.W.mg_none_of X G z_abs, PySem.W.mg_none_of X G z_all, PySem.W.mg_none_of X G z_bool, PySem.W.mg_none_of X G z_dict, PySem.W.mg_none_of X G z_enumerate, PySem.W.mg_none_of X G z_int, PySem.W.mg_none_of X G z_isinstance, PySem.W.mg_none_of X G z_len, PySem.W.mg_none_of X G z_list, PySem.W.mg_none_of X G z_range, PySem.W.mg_none_of X G z_set, PySem.W.mg_none_of X G z_sorted, PySem.W.mg_none_of X G z_str, PySem.W.mg_none_of X G z_tuple⟩
  have C : Con K mg w := ⟨⟨ai, es, nI, PySem.W.mg_of X G aIt, ⟨lIt, kIt, sIt⟩, items_at lIt eIt⟩, ⟨_, PySem.W.mg_of X G n_LAST_LETTER⟩, ⟨_, PySem.W.mg_of X G n_MOST_PAPER_ROWS⟩, ⟨aNO, PySem.W.mg_of X G n_NO, _, _, _, l_NO, rfl, rfl, by show 1 ≤ sizeLine; decide, .cons rv_str .nil⟩, ⟨aLOGICS, PySem.W.mg_of X G n_LOGICS, fun H => sqT_K l_LOGICS (by show 5 ≤ sizeLine; decide) (.cons rv_str (.cons rv_str (.cons rv_str (.cons rv_str (.cons rv_str .nil))))) H⟩, ⟨aMODAL, PySem.W.mg_of X G n_MODAL, fun H => sqT_K l_MODAL (by show 3 ≤ sizeLine; decide) (.cons rv_str (.cons rv_str (.cons rv_str .nil))) H⟩, ⟨aLo, es3, nLo, PySem.W.mg_of X G aLo_, ⟨lLo, kLo, sLo⟩, fun z => ⟨_, ns_dict lLo eLo rfl z, logof_some z⟩, fun r => by
    cases r with
    | neg => exact ⟨ltneg, (ns_dict lLo eLo rfl _).trans rfl, _, _, _, lLneg, rfl, rfl, by show 2 ≤ sizeLine; decide, .cons rv_str (.cons rv_str .nil)⟩
    | den => exact ⟨ltden, (ns_dict lLo eLo rfl _).trans rfl, _, _, _, lLden, rfl, rfl, by show 2 ≤ sizeLine; decide, .cons rv_str (.cons rv_str .nil)⟩
    | box => exact ⟨ltbox, (ns_dict lLo eLo rfl _).trans rfl, _, _, _, lLbox, rfl, rfl, by show 2 ≤ sizeLine; decide, .cons rv_str (.cons rv_str .nil)⟩
    | dou => exact ⟨ltdou, (ns_dict lLo eLo rfl _).trans rfl, _, _, _, lLdou, rfl, rfl, by show 2 ≤ sizeLine; decide, .cons rv_str (.cons rv_str .nil)⟩
    | mk => exact ⟨ltmk, (ns_dict lLo eLo rfl _).trans rfl, _, _, _, lLmk, rfl, rfl, by show 2 ≤ sizeLine; decide, .cons rv_str (.cons rv_str .nil)⟩
    | ms => exact ⟨ltms, (ns_dict lLo eLo rfl _).trans rfl, _, _, _, lLms, rfl, rfl, by show 2 ≤ sizeLine; decide, .cons rv_str (.cons rv_str .nil)⟩
    | mg => exact ⟨ltmg, (ns_dict lLo eLo rfl _).trans rfl, _, _, _, lLmg, rfl, rfl, by show 2 ≤ sizeLine; decide, .cons rv_str (.cons rv_str .nil)⟩⟩⟩
  let A : All K mg w := ⟨T, C, W, ⟨_, _, F1, PySem.W.mg_of X G a1, B1⟩, ⟨_, _, F2, PySem.W.mg_of X G a2, B2⟩, ⟨_, _, F3, PySem.W.mg_of X G a3, B3⟩, ⟨_, _, F4, PySem.W.mg_of X G a4, B4⟩, ⟨_, _, F5, PySem.W.mg_of X G a5, B5⟩, ⟨_, _, F6, PySem.W.mg_of X G a6, B6⟩, ⟨_, _, F7, PySem.W.mg_of X G a7, B7⟩, ⟨_, _, F8, PySem.W.mg_of X G a8, B8⟩, ⟨_, _, F9, PySem.W.mg_of X G a9, B9⟩, ⟨_, _, F10, PySem.W.mg_of X G a10, B10⟩, ⟨_, _, F11, PySem.W.mg_of X G a11, B11⟩, ⟨_, _, F12, PySem.W.mg_of X G a12, B12⟩, ⟨_, _, F13, PySem.W.mg_of X G a13, B13⟩, ⟨_, _, F14, PySem.W.mg_of X G a14, B14⟩, ⟨_, _, F15, PySem.W.mg_of X G a15, B15⟩, ⟨_, _, F16, PySem.W.mg_of X G a16, B16⟩, ⟨_, _, F17, PySem.W.mg_of X G a17, B17⟩, ⟨_, _, F18, PySem.W.mg_of X G a18, B18⟩, ⟨_, _, F19, PySem.W.mg_of X G a19, B19⟩, ⟨_, _, F20, PySem.W.mg_of X G a20, B20⟩, ⟨_, _, F21, PySem.W.mg_of X G a21, B21⟩, ⟨_, _, F22, PySem.W.mg_of X G a22, B22⟩, ⟨_, _, F23, PySem.W.mg_of X G a23, B23⟩, ⟨_, _, F24, PySem.W.mg_of X G a24, B24⟩, ⟨_, _, F25, PySem.W.mg_of X G a25, B25⟩, ⟨_, _, F26, PySem.W.mg_of X G a26, B26⟩, ⟨_, _, F27, PySem.W.mg_of X G a27, B27⟩, ⟨_, _, F28, PySem.W.mg_of X G a28, B28⟩, ⟨_, _, F29, PySem.W.mg_of X G a29, B29⟩, ⟨_, _, F30, PySem.W.mg_of X G a30, B30⟩, ⟨_, _, F31, PySem.W.mg_of X G a31, B31⟩, ⟨_, _, F32, PySem.W.mg_of X G a32, B32⟩, ⟨_, _, F33, PySem.W.mg_of X G a33, B33⟩, ⟨_, _, F34, PySem.W.mg_of X G a34, B34⟩, ⟨_, _, F35, PySem.W.mg_of X G a35, B35⟩, ⟨_, _, F36, PySem.W.mg_of X G a36, B36⟩, ⟨_, _, F37, PySem.W.mg_of X G a37, B37⟩, ⟨_, _, F38, PySem.W.mg_of X G a38, B38⟩, ⟨_, _, F39, PySem.W.mg_of X G a39, B39⟩, ⟨_, _, F40, PySem.W.mg_of X G a40, B40⟩, ⟨_, _, F41, PySem.W.mg_of X G a41, B41⟩, ⟨_, _, F42, PySem.W.mg_of X G a42, B42⟩, ⟨_, _, F43, PySem.W.mg_of X G a43, B43⟩, ⟨_, _, F44, PySem.W.mg_of X G a44, B44⟩, ⟨_, _, F45, PySem.W.mg_of X G a45, B45⟩, ⟨_, _, F46, PySem.W.mg_of X G a46, B46⟩, ⟨_, _, F47, PySem.W.mg_of X G a47, B47⟩, ⟨_, _, F48, PySem.W.mg_of X G a48, B48⟩, ⟨_, _, F49, PySem.W.mg_of X G a49, B49⟩, ⟨_, _, F50, PySem.W.mg_of X G a50, B50⟩, ⟨_, _, F51, PySem.W.mg_of X G a51, B51⟩, ⟨_, _, F52, PySem.W.mg_of X G a52, B52⟩, ⟨_, _, F53, PySem.W.mg_of X G a53, B53⟩, ⟨_, _, F54, PySem.W.mg_of X G a54, B54⟩, ⟨_, _, F55, PySem.W.mg_of X G a55, B55⟩, ⟨_, _, F56, PySem.W.mg_of X G a56, B56⟩, ⟨_, _, F57, PySem.W.mg_of X G a57, B57⟩, ⟨_, _, F58, PySem.W.mg_of X G a58, B58⟩, ⟨_, _, F59, PySem.W.mg_of X G a59, B59⟩, ⟨_, _, F60, PySem.W.mg_of X G a60, B60⟩, ⟨_, _, F61, PySem.W.mg_of X G a61, B61⟩, ⟨_, _, F62, PySem.W.mg_of X G a62, B62⟩, ⟨_, _, F63, PySem.W.mg_of X G a63, B63⟩, ⟨_, _, F64, PySem.W.mg_of X G a64, B64⟩⟩
  have R : Rds A := ⟨ar, PySem.W.mg_of X G aRd, fun wd => by
    cases wd with
    | neg => exact ⟨es2, nR, _, lRd, kRd, r_negative, rfl⟩
    | box => exact ⟨es2, nR, _, lRd, kRd, r_boxed, rfl⟩
    | dou => exact ⟨es2, nR, _, lRd, kRd, r_doubled, rfl⟩⟩
  have Gr : Grw K mg := ⟨aG, _, _, _, _, _, _, PySem.W.mg_of X G aG_, ⟨gpg, ghd, gpo, gsa⟩, gnS, gnT, ⟨gmk, aGinit, iGinit, gkc⟩, ⟨aGnode_row, iGnode_row, kGnode_row⟩, ⟨aGdeny, iGdeny, kGdeny⟩, FGinit, FGnode_row, FGdeny, BGinit, BGnode_row, BGdeny⟩
  let Z : Exs K mg := ⟨CE, fun n => if n = "BadLogic" then cBadLogic else if n = "BadSheet" then cBadSheet else if n = "BadClaim" then cBadClaim else if n = "BadModel" then cBadModel else if n = "BadPaper" then cBadPaper else if n = "BadTerm" then cBadTerm else if n = "BadEdit" then cBadEdit else if n = "BadValue" then cBadValue else if n = "BadText" then cBadText else if n = "BadSize" then cBadSize else if n = "TooMany" then cTooMany else if n = "NotBoxed" then cNotBoxed else if n = "NotProved" then cNotProved else if n = "NotThere" then cNotThere else if n = "NothingToUndo" then cNothingToUndo else if n = "NothingToRedo" then cNothingToRedo else CE, PySem.W.mg_of X G a_CourtError, fun n hn => by
    simp only [allNames, List.mem_cons, List.not_mem_nil, or_false] at hn
    rcases hn with h | h | h | h | h | h | h | h | h | h | h | h | h | h | h | h
    · subst h; exact PySem.W.mg_of X G a_BadLogic
    · subst h; exact PySem.W.mg_of X G a_BadSheet
    · subst h; exact PySem.W.mg_of X G a_BadClaim
    · subst h; exact PySem.W.mg_of X G a_BadModel
    · subst h; exact PySem.W.mg_of X G a_BadPaper
    · subst h; exact PySem.W.mg_of X G a_BadTerm
    · subst h; exact PySem.W.mg_of X G a_BadEdit
    · subst h; exact PySem.W.mg_of X G a_BadValue
    · subst h; exact PySem.W.mg_of X G a_BadText
    · subst h; exact PySem.W.mg_of X G a_BadSize
    · subst h; exact PySem.W.mg_of X G a_TooMany
    · subst h; exact PySem.W.mg_of X G a_NotBoxed
    · subst h; exact PySem.W.mg_of X G a_NotProved
    · subst h; exact PySem.W.mg_of X G a_NotThere
    · subst h; exact PySem.W.mg_of X G a_NothingToUndo
    · subst h; exact PySem.W.mg_of X G a_NothingToRedo⟩
  have NBadSheet : NF Z "BadSheet" := by
    refine ⟨⟨gaBadSheet, ggBadSheet, bBadSheet, h_BadSheet, gcBadSheet, spc, tkc, moBadSheet⟩, fun n hn => ?_, kit_of t_CourtError h_CourtError s_BadSheet_CourtError s_BadSheet_BadSheet, kit_val vBadSheet, PySem.W.exm_ref bC h_CourtError t_CourtError s_BadSheet_CourtError⟩
    simp only [allNames, List.mem_cons, List.not_mem_nil, or_false] at hn
    rcases hn with h | h | h | h | h | h | h | h | h | h | h | h | h | h | h | h
    · subst h; exact (kit_of t_BadLogic h_BadLogic s_BadSheet_BadLogic s_BadSheet_BadSheet).trans (congrArg some (by decide +kernel))
    · subst h; exact (kit_of t_BadSheet h_BadSheet s_BadSheet_BadSheet s_BadSheet_BadSheet).trans (congrArg some (by decide +kernel))
    · subst h; exact (kit_of t_BadClaim h_BadClaim s_BadSheet_BadClaim s_BadSheet_BadSheet).trans (congrArg some (by decide +kernel))
    · subst h; exact (kit_of t_BadModel h_BadModel s_BadSheet_BadModel s_BadSheet_BadSheet).trans (congrArg some (by decide +kernel))
    · subst h; exact (kit_of t_BadPaper h_BadPaper s_BadSheet_BadPaper s_BadSheet_BadSheet).trans (congrArg some (by decide +kernel))
    · subst h; exact (kit_of t_BadTerm h_BadTerm s_BadSheet_BadTerm s_BadSheet_BadSheet).trans (congrArg some (by decide +kernel))
    · subst h; exact (kit_of t_BadEdit h_BadEdit s_BadSheet_BadEdit s_BadSheet_BadSheet).trans (congrArg some (by decide +kernel))
    · subst h; exact (kit_of t_BadValue h_BadValue s_BadSheet_BadValue s_BadSheet_BadSheet).trans (congrArg some (by decide +kernel))
    · subst h; exact (kit_of t_BadText h_BadText s_BadSheet_BadText s_BadSheet_BadSheet).trans (congrArg some (by decide +kernel))
    · subst h; exact (kit_of t_BadSize h_BadSize s_BadSheet_BadSize s_BadSheet_BadSheet).trans (congrArg some (by decide +kernel))
    · subst h; exact (kit_of t_TooMany h_TooMany s_BadSheet_TooMany s_BadSheet_BadSheet).trans (congrArg some (by decide +kernel))
    · subst h; exact (kit_of t_NotBoxed h_NotBoxed s_BadSheet_NotBoxed s_BadSheet_BadSheet).trans (congrArg some (by decide +kernel))
    · subst h; exact (kit_of t_NotProved h_NotProved s_BadSheet_NotProved s_BadSheet_BadSheet).trans (congrArg some (by decide +kernel))
    · subst h; exact (kit_of t_NotThere h_NotThere s_BadSheet_NotThere s_BadSheet_BadSheet).trans (congrArg some (by decide +kernel))
    · subst h; exact (kit_of t_NothingToUndo h_NothingToUndo s_BadSheet_NothingToUndo s_BadSheet_BadSheet).trans (congrArg some (by decide +kernel))
    · subst h; exact (kit_of t_NothingToRedo h_NothingToRedo s_BadSheet_NothingToRedo s_BadSheet_BadSheet).trans (congrArg some (by decide +kernel))
  have Z_BadSheet : Er_BadSheet Z := ⟨⟨xSBadSheet, saBadSheet, bBadSheet, t_BadSheet, kpBadSheet⟩, _, _, iBadSheet, tIBadSheet, FEBadSheet, BEBadSheet, ⟨gaBadSheet, ggBadSheet, bBadSheet, h_BadSheet⟩, noBadSheet, NBadSheet⟩
  have NBadValue : NF Z "BadValue" := by
    refine ⟨⟨gaBadValue, ggBadValue, bBadValue, h_BadValue, gcBadValue, spc, tkc, moBadValue⟩, fun n hn => ?_, kit_of t_CourtError h_CourtError s_BadValue_CourtError s_BadValue_BadValue, kit_val vBadValue, PySem.W.exm_ref bC h_CourtError t_CourtError s_BadValue_CourtError⟩
    simp only [allNames, List.mem_cons, List.not_mem_nil, or_false] at hn
    rcases hn with h | h | h | h | h | h | h | h | h | h | h | h | h | h | h | h
    · subst h; exact (kit_of t_BadLogic h_BadLogic s_BadValue_BadLogic s_BadValue_BadValue).trans (congrArg some (by decide +kernel))
    · subst h; exact (kit_of t_BadSheet h_BadSheet s_BadValue_BadSheet s_BadValue_BadValue).trans (congrArg some (by decide +kernel))
    · subst h; exact (kit_of t_BadClaim h_BadClaim s_BadValue_BadClaim s_BadValue_BadValue).trans (congrArg some (by decide +kernel))
    · subst h; exact (kit_of t_BadModel h_BadModel s_BadValue_BadModel s_BadValue_BadValue).trans (congrArg some (by decide +kernel))
    · subst h; exact (kit_of t_BadPaper h_BadPaper s_BadValue_BadPaper s_BadValue_BadValue).trans (congrArg some (by decide +kernel))
    · subst h; exact (kit_of t_BadTerm h_BadTerm s_BadValue_BadTerm s_BadValue_BadValue).trans (congrArg some (by decide +kernel))
    · subst h; exact (kit_of t_BadEdit h_BadEdit s_BadValue_BadEdit s_BadValue_BadValue).trans (congrArg some (by decide +kernel))
    · subst h; exact (kit_of t_BadValue h_BadValue s_BadValue_BadValue s_BadValue_BadValue).trans (congrArg some (by decide +kernel))
    · subst h; exact (kit_of t_BadText h_BadText s_BadValue_BadText s_BadValue_BadValue).trans (congrArg some (by decide +kernel))
    · subst h; exact (kit_of t_BadSize h_BadSize s_BadValue_BadSize s_BadValue_BadValue).trans (congrArg some (by decide +kernel))
    · subst h; exact (kit_of t_TooMany h_TooMany s_BadValue_TooMany s_BadValue_BadValue).trans (congrArg some (by decide +kernel))
    · subst h; exact (kit_of t_NotBoxed h_NotBoxed s_BadValue_NotBoxed s_BadValue_BadValue).trans (congrArg some (by decide +kernel))
    · subst h; exact (kit_of t_NotProved h_NotProved s_BadValue_NotProved s_BadValue_BadValue).trans (congrArg some (by decide +kernel))
    · subst h; exact (kit_of t_NotThere h_NotThere s_BadValue_NotThere s_BadValue_BadValue).trans (congrArg some (by decide +kernel))
    · subst h; exact (kit_of t_NothingToUndo h_NothingToUndo s_BadValue_NothingToUndo s_BadValue_BadValue).trans (congrArg some (by decide +kernel))
    · subst h; exact (kit_of t_NothingToRedo h_NothingToRedo s_BadValue_NothingToRedo s_BadValue_BadValue).trans (congrArg some (by decide +kernel))
  have Z_BadValue : Er_BadValue Z := ⟨⟨xSBadValue, saBadValue, bBadValue, t_BadValue, kpBadValue⟩, _, _, iBadValue, tIBadValue, FEBadValue, BEBadValue, ⟨gaBadValue, ggBadValue, bBadValue, h_BadValue⟩, noBadValue, NBadValue⟩
  have NBadClaim : NF Z "BadClaim" := by
    refine ⟨⟨gaBadClaim, ggBadClaim, bBadClaim, h_BadClaim, gcBadClaim, spc, tkc, moBadClaim⟩, fun n hn => ?_, kit_of t_CourtError h_CourtError s_BadClaim_CourtError s_BadClaim_BadClaim, kit_val vBadClaim, PySem.W.exm_ref bC h_CourtError t_CourtError s_BadClaim_CourtError⟩
    simp only [allNames, List.mem_cons, List.not_mem_nil, or_false] at hn
    rcases hn with h | h | h | h | h | h | h | h | h | h | h | h | h | h | h | h
    · subst h; exact (kit_of t_BadLogic h_BadLogic s_BadClaim_BadLogic s_BadClaim_BadClaim).trans (congrArg some (by decide +kernel))
    · subst h; exact (kit_of t_BadSheet h_BadSheet s_BadClaim_BadSheet s_BadClaim_BadClaim).trans (congrArg some (by decide +kernel))
    · subst h; exact (kit_of t_BadClaim h_BadClaim s_BadClaim_BadClaim s_BadClaim_BadClaim).trans (congrArg some (by decide +kernel))
    · subst h; exact (kit_of t_BadModel h_BadModel s_BadClaim_BadModel s_BadClaim_BadClaim).trans (congrArg some (by decide +kernel))
    · subst h; exact (kit_of t_BadPaper h_BadPaper s_BadClaim_BadPaper s_BadClaim_BadClaim).trans (congrArg some (by decide +kernel))
    · subst h; exact (kit_of t_BadTerm h_BadTerm s_BadClaim_BadTerm s_BadClaim_BadClaim).trans (congrArg some (by decide +kernel))
    · subst h; exact (kit_of t_BadEdit h_BadEdit s_BadClaim_BadEdit s_BadClaim_BadClaim).trans (congrArg some (by decide +kernel))
    · subst h; exact (kit_of t_BadValue h_BadValue s_BadClaim_BadValue s_BadClaim_BadClaim).trans (congrArg some (by decide +kernel))
    · subst h; exact (kit_of t_BadText h_BadText s_BadClaim_BadText s_BadClaim_BadClaim).trans (congrArg some (by decide +kernel))
    · subst h; exact (kit_of t_BadSize h_BadSize s_BadClaim_BadSize s_BadClaim_BadClaim).trans (congrArg some (by decide +kernel))
    · subst h; exact (kit_of t_TooMany h_TooMany s_BadClaim_TooMany s_BadClaim_BadClaim).trans (congrArg some (by decide +kernel))
    · subst h; exact (kit_of t_NotBoxed h_NotBoxed s_BadClaim_NotBoxed s_BadClaim_BadClaim).trans (congrArg some (by decide +kernel))
    · subst h; exact (kit_of t_NotProved h_NotProved s_BadClaim_NotProved s_BadClaim_BadClaim).trans (congrArg some (by decide +kernel))
    · subst h; exact (kit_of t_NotThere h_NotThere s_BadClaim_NotThere s_BadClaim_BadClaim).trans (congrArg some (by decide +kernel))
    · subst h; exact (kit_of t_NothingToUndo h_NothingToUndo s_BadClaim_NothingToUndo s_BadClaim_BadClaim).trans (congrArg some (by decide +kernel))
    · subst h; exact (kit_of t_NothingToRedo h_NothingToRedo s_BadClaim_NothingToRedo s_BadClaim_BadClaim).trans (congrArg some (by decide +kernel))
  have Z_BadClaim : Er_BadClaim Z := ⟨⟨xSBadClaim, saBadClaim, bBadClaim, t_BadClaim, kpBadClaim⟩, _, _, iBadClaim, tIBadClaim, FEBadClaim, BEBadClaim, ⟨gaBadClaim, ggBadClaim, bBadClaim, h_BadClaim⟩, noBadClaim, NBadClaim⟩
  exact ⟨A.law.fd, fun s v => .of_eq rfl, fun base _ _ => ok_law A Gr R Z Z_BadSheet Z_BadValue Z_BadClaim⟩
end K60

set_option Elab.async false
set_option linter.all false
set_option maxRecDepth 100000
open PySem PySem.W PyProof.Rows
set_option maxRecDepth 100000 in
set_option maxHeartbeats 0 in
theorem PySem.Challenge.cw_provedorshown_k60_whole_read_claims_holds : PySem.Challenge.rw_provedorshown_k60_whole_read_claims.Holds := by
  w_on; o_law; k_head; (case hw => w_witness2)
  k_fill
  refine L2.walk_of (l := PySem.Challenge.rw_provedorshown_k60_whole_read_claims) (n := 63) (k := 18) (x := "script") (CX := fun _ => L2.CX0) (sp := fun w => K60.spLaw _) rfl (by decide) rfl ⟨rfl, by decide, by decide⟩ (fun w h Y => PySem.W.kIn_of Y) ?F (fun _ _ a ns hl _ hS => ⟨a, ns, rfl, hS, hl, fun _ => rfl⟩) (fun _ _ _ _ _ h => h)
  case F =>
    intro w mg fa h KX G hmg
    refine' K60.all_mk KX G hmg ?a1 ?l1 ?c1 ?k1 ?a2 ?l2 ?c2 ?k2 ?a3 ?l3 ?c3 ?k3 ?a4 ?l4 ?c4 ?k4 ?a5 ?l5 ?c5 ?k5 ?a6 ?l6 ?c6 ?k6 ?a7 ?l7 ?c7 ?k7 ?a8 ?l8 ?c8 ?k8 ?a9 ?l9 ?c9 ?k9 ?a10 ?l10 ?c10 ?k10 ?a11 ?l11 ?c11 ?k11 ?a12 ?l12 ?c12 ?k12 ?a13 ?l13 ?c13 ?k13 ?a14 ?l14 ?c14 ?k14 ?a15 ?l15 ?c15 ?k15 ?a16 ?l16 ?c16 ?k16 ?a17 ?l17 ?c17 ?k17 ?a18 ?l18 ?c18 ?k18 ?a19 ?l19 ?c19 ?k19 ?a20 ?l20 ?c20 ?k20 ?a21 ?l21 ?c21 ?k21 ?a22 ?l22 ?c22 ?k22 ?a23 ?l23 ?c23 ?k23 ?a24 ?l24 ?c24 ?k24 ?a25 ?l25 ?c25 ?k25 ?a26 ?l26 ?c26 ?k26 ?a27 ?l27 ?c27 ?k27 ?a28 ?l28 ?c28 ?k28 ?a29 ?l29 ?c29 ?k29 ?a30 ?l30 ?c30 ?k30 ?a31 ?l31 ?c31 ?k31 ?a32 ?l32 ?c32 ?k32 ?a33 ?l33 ?c33 ?k33 ?a34 ?l34 ?c34 ?k34 ?a35 ?l35 ?c35 ?k35 ?a36 ?l36 ?c36 ?k36 ?a37 ?l37 ?c37 ?k37 ?a38 ?l38 ?c38 ?k38 ?a39 ?l39 ?c39 ?k39 ?a40 ?l40 ?c40 ?k40 ?a41 ?l41 ?c41 ?k41 ?a42 ?l42 ?c42 ?k42 ?a43 ?l43 ?c43 ?k43 ?a44 ?l44 ?c44 ?k44 ?a45 ?l45 ?c45 ?k45 ?a46 ?l46 ?c46 ?k46 ?a47 ?l47 ?c47 ?k47 ?a48 ?l48 ?c48 ?k48 ?a49 ?l49 ?c49 ?k49 ?a50 ?l50 ?c50 ?k50 ?a51 ?l51 ?c51 ?k51 ?a52 ?l52 ?c52 ?k52 ?a53 ?l53 ?c53 ?k53 ?a54 ?l54 ?c54 ?k54 ?a55 ?l55 ?c55 ?k55 ?a56 ?l56 ?c56 ?k56 ?a57 ?l57 ?c57 ?k57 ?a58 ?l58 ?c58 ?k58 ?a59 ?l59 ?c59 ?k59 ?a60 ?l60 ?c60 ?k60 ?a61 ?l61 ?c61 ?k61 ?a62 ?l62 ?c62 ?k62 ?a63 ?l63 ?c63 ?k63 ?a64 ?l64 ?c64 ?k64 ?z_ValueError ?z_abs ?z_all ?z_bool ?z_dict ?z_enumerate ?z_int ?z_isinstance ?z_len ?z_list ?z_range ?z_set ?z_sorted ?z_str ?z_tuple ?aIt ?lIt ?eIt ?kIt ?sIt ?n_LAST_LETTER ?n_MOST_PAPER_ROWS ?n_NO ?l_NO ?n_LOGICS ?l_LOGICS ?n_MODAL ?l_MODAL ?aLo_ ?lLo ?eLo ?kLo ?sLo ?lLneg ?lLden ?lLbox ?lLdou ?lLmk ?lLms ?lLmg ?aRd ?lRd ?kRd ?r_negative ?r_boxed ?r_doubled ?aG_ ?aGinit ?iGinit ?lGinit ?cGinit ?kGinit ?aGnode_row ?iGnode_row ?lGnode_row ?cGnode_row ?kGnode_row ?aGdeny ?iGdeny ?lGdeny ?cGdeny ?kGdeny ?gpg ?ghd ?gpo ?gsa ?gmk ?gkc ?gnS ?gnT ?a_BadLogic ?a_BadSheet ?a_BadClaim ?a_BadModel ?a_BadPaper ?a_BadTerm ?a_BadEdit ?a_BadValue ?a_BadText ?a_BadSize ?a_TooMany ?a_NotBoxed ?a_NotProved ?a_NotThere ?a_NothingToUndo ?a_NothingToRedo ?a_CourtError ?t_BadLogic ?h_BadLogic ?t_BadSheet ?h_BadSheet ?t_BadClaim ?h_BadClaim ?t_BadModel ?h_BadModel ?t_BadPaper ?h_BadPaper ?t_BadTerm ?h_BadTerm ?t_BadEdit ?h_BadEdit ?t_BadValue ?h_BadValue ?t_BadText ?h_BadText ?t_BadSize ?h_BadSize ?t_TooMany ?h_TooMany ?t_NotBoxed ?h_NotBoxed ?t_NotProved ?h_NotProved ?t_NotThere ?h_NotThere ?t_NothingToUndo ?h_NothingToUndo ?t_NothingToRedo ?h_NothingToRedo ?t_CourtError ?h_CourtError ?bC ?spc ?tkc ?s_BadSheet_BadLogic ?s_BadSheet_BadSheet ?s_BadSheet_BadClaim ?s_BadSheet_BadModel ?s_BadSheet_BadPaper ?s_BadSheet_BadTerm ?s_BadSheet_BadEdit ?s_BadSheet_BadValue ?s_BadSheet_BadText ?s_BadSheet_BadSize ?s_BadSheet_TooMany ?s_BadSheet_NotBoxed ?s_BadSheet_NotProved ?s_BadSheet_NotThere ?s_BadSheet_NothingToUndo ?s_BadSheet_NothingToRedo ?s_BadSheet_CourtError ?vBadSheet ?bBadSheet ?gaBadSheet ?ggBadSheet ?gcBadSheet ?moBadSheet ?kpBadSheet ?xSBadSheet ?saBadSheet ?noBadSheet ?iBadSheet ?tIBadSheet ?lEBadSheet ?cEBadSheet ?kEBadSheet ?s_BadValue_BadLogic ?s_BadValue_BadSheet ?s_BadValue_BadClaim ?s_BadValue_BadModel ?s_BadValue_BadPaper ?s_BadValue_BadTerm ?s_BadValue_BadEdit ?s_BadValue_BadValue ?s_BadValue_BadText ?s_BadValue_BadSize ?s_BadValue_TooMany ?s_BadValue_NotBoxed ?s_BadValue_NotProved ?s_BadValue_NotThere ?s_BadValue_NothingToUndo ?s_BadValue_NothingToRedo ?s_BadValue_CourtError ?vBadValue ?bBadValue ?gaBadValue ?ggBadValue ?gcBadValue ?moBadValue ?kpBadValue ?xSBadValue ?saBadValue ?noBadValue ?iBadValue ?tIBadValue ?lEBadValue ?cEBadValue ?kEBadValue ?s_BadClaim_BadLogic ?s_BadClaim_BadSheet ?s_BadClaim_BadClaim ?s_BadClaim_BadModel ?s_BadClaim_BadPaper ?s_BadClaim_BadTerm ?s_BadClaim_BadEdit ?s_BadClaim_BadValue ?s_BadClaim_BadText ?s_BadClaim_BadSize ?s_BadClaim_TooMany ?s_BadClaim_NotBoxed ?s_BadClaim_NotProved ?s_BadClaim_NotThere ?s_BadClaim_NothingToUndo ?s_BadClaim_NothingToRedo ?s_BadClaim_CourtError ?vBadClaim ?bBadClaim ?gaBadClaim ?ggBadClaim ?gcBadClaim ?moBadClaim ?kpBadClaim ?xSBadClaim ?saBadClaim ?noBadClaim ?iBadClaim ?tIBadClaim ?lEBadClaim ?cEBadClaim ?kEBadClaim
    (case a1 => k_is)
    (case l1 => k_is)
    (case c1 => k_is)
    (case k1 => k_is)
    (case a2 => k_is)
    (case l2 => k_is)
    (case c2 => k_is)
    (case k2 => k_is)
    (case a3 => k_is)
    (case l3 => k_is)
    (case c3 => k_is)
    (case k3 => k_is)
    (case a4 => k_is)
    (case l4 => k_is)
    (case c4 => k_is)
    (case k4 => k_is)
    (case a5 => k_is)
    (case l5 => k_is)
    (case c5 => k_is)
    (case k5 => k_is)
    (case a6 => k_is)
    (case l6 => k_is)
    (case c6 => k_is)
    (case k6 => k_is)
    (case a7 => k_is)
    (case l7 => k_is)
    (case c7 => k_is)
    (case k7 => k_is)
    (case a8 => k_is)
    (case l8 => k_is)
    (case c8 => k_is)
    (case k8 => k_is)
    (case a9 => k_is)
    (case l9 => k_is)
    (case c9 => k_is)
    (case k9 => k_is)
    (case a10 => k_is)
    (case l10 => k_is)
    (case c10 => k_is)
    (case k10 => k_is)
    (case a11 => k_is)
    (case l11 => k_is)
    (case c11 => k_is)
    (case k11 => k_is)
    (case a12 => k_is)
    (case l12 => k_is)
    (case c12 => k_is)
    (case k12 => k_is)
    (case a13 => k_is)
    (case l13 => k_is)
    (case c13 => k_is)
    (case k13 => k_is)
    (case a14 => k_is)
    (case l14 => k_is)
    (case c14 => k_is)
    (case k14 => k_is)
    (case a15 => k_is)
    (case l15 => k_is)
    (case c15 => k_is)
    (case k15 => k_is)
    (case a16 => k_is)
    (case l16 => k_is)
    (case c16 => k_is)
    (case k16 => k_is)
    (case a17 => k_is)
    (case l17 => k_is)
    (case c17 => k_is)
    (case k17 => k_is)
    (case a18 => k_is)
    (case l18 => k_is)
    (case c18 => k_is)
    (case k18 => k_is)
    (case a19 => k_is)
    (case l19 => k_is)
    (case c19 => k_is)
    (case k19 => k_is)
    (case a20 => k_is)
    (case l20 => k_is)
    (case c20 => k_is)
    (case k20 => k_is)
    (case a21 => k_is)
    (case l21 => k_is)
    (case c21 => k_is)
    (case k21 => k_is)
    (case a22 => k_is)
    (case l22 => k_is)
    (case c22 => k_is)
    (case k22 => k_is)
    (case a23 => k_is)
    (case l23 => k_is)
    (case c23 => k_is)
    (case k23 => k_is)
    (case a24 => k_is)
    (case l24 => k_is)
    (case c24 => k_is)
    (case k24 => k_is)
    (case a25 => k_is)
    (case l25 => k_is)
    (case c25 => k_is)
    (case k25 => k_is)
    (case a26 => k_is)
    (case l26 => k_is)
    (case c26 => k_is)
    (case k26 => k_is)
    (case a27 => k_is)
    (case l27 => k_is)
    (case c27 => k_is)
    (case k27 => k_is)
    (case a28 => k_is)
    (case l28 => k_is)
    (case c28 => k_is)
    (case k28 => k_is)
    (case a29 => k_is)
    (case l29 => k_is)
    (case c29 => k_is)
    (case k29 => k_is)
    (case a30 => k_is)
    (case l30 => k_is)
    (case c30 => k_is)
    (case k30 => k_is)
    (case a31 => k_is)
    (case l31 => k_is)
    (case c31 => k_is)
    (case k31 => k_is)
    (case a32 => k_is)
    (case l32 => k_is)
    (case c32 => k_is)
    (case k32 => k_is)
    (case a33 => k_is)
    (case l33 => k_is)
    (case c33 => k_is)
    (case k33 => k_is)
    (case a34 => k_is)
    (case l34 => k_is)
    (case c34 => k_is)
    (case k34 => k_is)
    (case a35 => k_is)
    (case l35 => k_is)
    (case c35 => k_is)
    (case k35 => k_is)
    (case a36 => k_is)
    (case l36 => k_is)
    (case c36 => k_is)
    (case k36 => k_is)
    (case a37 => k_is)
    (case l37 => k_is)
    (case c37 => k_is)
    (case k37 => k_is)
    (case a38 => k_is)
    (case l38 => k_is)
    (case c38 => k_is)
    (case k38 => k_is)
    (case a39 => k_is)
    (case l39 => k_is)
    (case c39 => k_is)
    (case k39 => k_is)
    (case a40 => k_is)
    (case l40 => k_is)
    (case c40 => k_is)
    (case k40 => k_is)
    (case a41 => k_is)
    (case l41 => k_is)
    (case c41 => k_is)
    (case k41 => k_is)
    (case a42 => k_is)
    (case l42 => k_is)
    (case c42 => k_is)
    (case k42 => k_is)
    (case a43 => k_is)
    (case l43 => k_is)
    (case c43 => k_is)
    (case k43 => k_is)
    (case a44 => k_is)
    (case l44 => k_is)
    (case c44 => k_is)
    (case k44 => k_is)
    (case a45 => k_is)
    (case l45 => k_is)
    (case c45 => k_is)
    (case k45 => k_is)
    (case a46 => k_is)
    (case l46 => k_is)
    (case c46 => k_is)
    (case k46 => k_is)
    (case a47 => k_is)
    (case l47 => k_is)
    (case c47 => k_is)
    (case k47 => k_is)
    (case a48 => k_is)
    (case l48 => k_is)
    (case c48 => k_is)
    (case k48 => k_is)
    (case a49 => k_is)
    (case l49 => k_is)
    (case c49 => k_is)
    (case k49 => k_is)
    (case a50 => k_is)
    (case l50 => k_is)
    (case c50 => k_is)
    (case k50 => k_is)
    (case a51 => k_is)
    (case l51 => k_is)
    (case c51 => k_is)
    (case k51 => k_is)
    (case a52 => k_is)
    (case l52 => k_is)
    (case c52 => k_is)
    (case k52 => k_is)
    (case a53 => k_is)
    (case l53 => k_is)
    (case c53 => k_is)
    (case k53 => k_is)
    (case a54 => k_is)
    (case l54 => k_is)
    (case c54 => k_is)
    (case k54 => k_is)
    (case a55 => k_is)
    (case l55 => k_is)
    (case c55 => k_is)
    (case k55 => k_is)
    (case a56 => k_is)
    (case l56 => k_is)
    (case c56 => k_is)
    (case k56 => k_is)
    (case a57 => k_is)
    (case l57 => k_is)
    (case c57 => k_is)
    (case k57 => k_is)
    (case a58 => k_is)
    (case l58 => k_is)
    (case c58 => k_is)
    (case k58 => k_is)
    (case a59 => k_is)
    (case l59 => k_is)
    (case c59 => k_is)
    (case k59 => k_is)
    (case a60 => k_is)
    (case l60 => k_is)
    (case c60 => k_is)
    (case k60 => k_is)
    (case a61 => k_is)
    (case l61 => k_is)
    (case c61 => k_is)
    (case k61 => k_is)
    (case a62 => k_is)
    (case l62 => k_is)
    (case c62 => k_is)
    (case k62 => k_is)
    (case a63 => k_is)
    (case l63 => k_is)
    (case c63 => k_is)
    (case k63 => k_is)
    (case a64 => k_is)
    (case l64 => k_is)
    (case c64 => k_is)
    (case k64 => k_is)
    (case z_ValueError => k_is)
    (case z_abs => k_is)
    (case z_all => k_is)
    (case z_bool => k_is)
    (case z_dict => k_is)
    (case z_enumerate => k_is)
    (case z_int => k_is)
    (case z_isinstance => k_is)
    (case z_len => k_is)
    (case z_list => k_is)
    (case z_range => k_is)
    (case z_set => k_is)
    (case z_sorted => k_is)
    (case z_str => k_is)
    (case z_tuple => k_is)
    (case aIt => k_is)
    (case lIt => k_is)
    (case eIt => rfl)
    (case kIt => k_keys)
    (case sIt => decide)
    (case n_LAST_LETTER => k_is)
    (case n_MOST_PAPER_ROWS => k_is)
    (case n_NO => k_is)
    (case l_NO => k_is)
    (case n_LOGICS => k_is)
    (case l_LOGICS => k_is)
    (case n_MODAL => k_is)
    (case l_MODAL => k_is)
    (case aLo_ => k_is)
    (case lLo => k_is)
    (case eLo => rfl)
    (case kLo => k_keys)
    (case sLo => decide)
    (case lLneg => k_is)
    (case lLden => k_is)
    (case lLbox => k_is)
    (case lLdou => k_is)
    (case lLmk => k_is)
    (case lLms => k_is)
    (case lLmg => k_is)
    (case aRd => k_is)
    (case lRd => k_is)
    (case kRd => k_keys)
    (case r_negative => k_is)
    (case r_boxed => k_is)
    (case r_doubled => k_is)
    (case aG_ => k_is)
    (case aGinit => k_is)
    (case iGinit => k_is)
    (case lGinit => k_is)
    (case cGinit => k_is)
    (case kGinit => k_is)
    (case aGnode_row => k_is)
    (case iGnode_row => k_is)
    (case lGnode_row => k_is)
    (case cGnode_row => k_is)
    (case kGnode_row => k_is)
    (case aGdeny => k_is)
    (case iGdeny => k_is)
    (case lGdeny => k_is)
    (case cGdeny => k_is)
    (case kGdeny => k_is)
    (case gpg => k_is)
    (case ghd => k_is)
    (case gpo => k_is)
    (case gsa => k_is)
    (case gmk => k_is)
    (case gkc => k_is)
    (case gnS => k_is)
    (case gnT => k_is)
    (case a_BadLogic => k_is)
    (case a_BadSheet => k_is)
    (case a_BadClaim => k_is)
    (case a_BadModel => k_is)
    (case a_BadPaper => k_is)
    (case a_BadTerm => k_is)
    (case a_BadEdit => k_is)
    (case a_BadValue => k_is)
    (case a_BadText => k_is)
    (case a_BadSize => k_is)
    (case a_TooMany => k_is)
    (case a_NotBoxed => k_is)
    (case a_NotProved => k_is)
    (case a_NotThere => k_is)
    (case a_NothingToUndo => k_is)
    (case a_NothingToRedo => k_is)
    (case a_CourtError => k_is)
    (case t_BadLogic => k_is)
    (case h_BadLogic => k_is)
    (case t_BadSheet => k_is)
    (case h_BadSheet => k_is)
    (case t_BadClaim => k_is)
    (case h_BadClaim => k_is)
    (case t_BadModel => k_is)
    (case h_BadModel => k_is)
    (case t_BadPaper => k_is)
    (case h_BadPaper => k_is)
    (case t_BadTerm => k_is)
    (case h_BadTerm => k_is)
    (case t_BadEdit => k_is)
    (case h_BadEdit => k_is)
    (case t_BadValue => k_is)
    (case h_BadValue => k_is)
    (case t_BadText => k_is)
    (case h_BadText => k_is)
    (case t_BadSize => k_is)
    (case h_BadSize => k_is)
    (case t_TooMany => k_is)
    (case h_TooMany => k_is)
    (case t_NotBoxed => k_is)
    (case h_NotBoxed => k_is)
    (case t_NotProved => k_is)
    (case h_NotProved => k_is)
    (case t_NotThere => k_is)
    (case h_NotThere => k_is)
    (case t_NothingToUndo => k_is)
    (case h_NothingToUndo => k_is)
    (case t_NothingToRedo => k_is)
    (case h_NothingToRedo => k_is)
    (case t_CourtError => k_is)
    (case h_CourtError => k_is)
    (case bC => k_is)
    (case spc => k_is)
    (case tkc => k_is)
    (case s_BadSheet_BadLogic => k_is)
    (case s_BadSheet_BadSheet => k_is)
    (case s_BadSheet_BadClaim => k_is)
    (case s_BadSheet_BadModel => k_is)
    (case s_BadSheet_BadPaper => k_is)
    (case s_BadSheet_BadTerm => k_is)
    (case s_BadSheet_BadEdit => k_is)
    (case s_BadSheet_BadValue => k_is)
    (case s_BadSheet_BadText => k_is)
    (case s_BadSheet_BadSize => k_is)
    (case s_BadSheet_TooMany => k_is)
    (case s_BadSheet_NotBoxed => k_is)
    (case s_BadSheet_NotProved => k_is)
    (case s_BadSheet_NotThere => k_is)
    (case s_BadSheet_NothingToUndo => k_is)
    (case s_BadSheet_NothingToRedo => k_is)
    (case s_BadSheet_CourtError => k_is)
    (case vBadSheet => k_is)
    (case bBadSheet => k_is)
    (case gaBadSheet => k_is)
    (case ggBadSheet => k_is)
    (case gcBadSheet => k_is)
    (case moBadSheet => k_is)
    (case kpBadSheet => k_is)
    (case xSBadSheet => exact ⟨_, _, _, _, _, _, _, _, _, _, _, _, _, _, _, by k_is, by decide +kernel⟩)
    (case saBadSheet => k_is)
    (case noBadSheet => k_is)
    (case iBadSheet => k_is)
    (case tIBadSheet => k_is)
    (case lEBadSheet => k_is)
    (case cEBadSheet => k_is)
    (case kEBadSheet => k_is)
    (case s_BadValue_BadLogic => k_is)
    (case s_BadValue_BadSheet => k_is)
    (case s_BadValue_BadClaim => k_is)
    (case s_BadValue_BadModel => k_is)
    (case s_BadValue_BadPaper => k_is)
    (case s_BadValue_BadTerm => k_is)
    (case s_BadValue_BadEdit => k_is)
    (case s_BadValue_BadValue => k_is)
    (case s_BadValue_BadText => k_is)
    (case s_BadValue_BadSize => k_is)
    (case s_BadValue_TooMany => k_is)
    (case s_BadValue_NotBoxed => k_is)
    (case s_BadValue_NotProved => k_is)
    (case s_BadValue_NotThere => k_is)
    (case s_BadValue_NothingToUndo => k_is)
    (case s_BadValue_NothingToRedo => k_is)
    (case s_BadValue_CourtError => k_is)
    (case vBadValue => k_is)
    (case bBadValue => k_is)
    (case gaBadValue => k_is)
    (case ggBadValue => k_is)
    (case gcBadValue => k_is)
    (case moBadValue => k_is)
    (case kpBadValue => k_is)
    (case xSBadValue => exact ⟨_, _, _, _, _, _, _, _, _, _, _, _, _, _, _, by k_is, by decide +kernel⟩)
    (case saBadValue => k_is)
    (case noBadValue => k_is)
    (case iBadValue => k_is)
    (case tIBadValue => k_is)
    (case lEBadValue => k_is)
    (case cEBadValue => k_is)
    (case kEBadValue => k_is)
    (case s_BadClaim_BadLogic => k_is)
    (case s_BadClaim_BadSheet => k_is)
    (case s_BadClaim_BadClaim => k_is)
    (case s_BadClaim_BadModel => k_is)
    (case s_BadClaim_BadPaper => k_is)
    (case s_BadClaim_BadTerm => k_is)
    (case s_BadClaim_BadEdit => k_is)
    (case s_BadClaim_BadValue => k_is)
    (case s_BadClaim_BadText => k_is)
    (case s_BadClaim_BadSize => k_is)
    (case s_BadClaim_TooMany => k_is)
    (case s_BadClaim_NotBoxed => k_is)
    (case s_BadClaim_NotProved => k_is)
    (case s_BadClaim_NotThere => k_is)
    (case s_BadClaim_NothingToUndo => k_is)
    (case s_BadClaim_NothingToRedo => k_is)
    (case s_BadClaim_CourtError => k_is)
    (case vBadClaim => k_is)
    (case bBadClaim => k_is)
    (case gaBadClaim => k_is)
    (case ggBadClaim => k_is)
    (case gcBadClaim => k_is)
    (case moBadClaim => k_is)
    (case kpBadClaim => k_is)
    (case xSBadClaim => exact ⟨_, _, _, _, _, _, _, _, _, _, _, _, _, _, _, by k_is, by decide +kernel⟩)
    (case saBadClaim => k_is)
    (case noBadClaim => k_is)
    (case iBadClaim => k_is)
    (case tIBadClaim => k_is)
    (case lEBadClaim => k_is)
    (case cEBadClaim => k_is)
    (case kEBadClaim => k_is)

