import PyProof.Rows.All
import Wide.All
import OpenK.AllK
import Wide.FinOn
import HandS.ForMost
import HandS.IsInst
import HandS.Codes
import HandS.More
import HandS.TupMul
import HandS.ExcCtx
import HandS.Hot
import HandS.HotCalls
import HandS.ExcIs
import HandS.ExcField
import HandS.ExcInit
import HandS.SetFor
import HandS.Deep
import HandS.Style
import PySem.Challenge.RW_provedorshown_k59_whole_readings_of_rows
import HandS.CallLocal
set_option Elab.async false
set_option linter.all false
set_option maxRecDepth 100000
set_option maxHeartbeats 4000000
/-! LLib: what the proofs of several laws share. Heaps that grow while the addresses of M may change; plain data; the spec of a sheet. -/
namespace LL
open PySem PySem.Spec PyProof.Rows L2

theorem iteB {b : Bool} {A B : Prop} (h1 : b = true → A) (h2 : b = false → B) : if b = true then A else B := by
  cases b with
  | true => rw [if_pos rfl]; exact h1 rfl
  | false => rw [if_neg Bool.false_ne_true]; exact h2 rfl
theorem iteY {b : Bool} {A B : Prop} (hb : b = true) (h : A) : if b = true then A else B := by rw [if_pos hb]; exact h
theorem iteN {b : Bool} {A B : Prop} (hb : b = false) (h : B) : if b = true then A else B := by rw [hb, if_neg Bool.false_ne_true]; exact h

/-! ### heaps -/
def Adv (M : List Addr) (H H' : Hp) : Prop := ∀ b o, b ∉ M → H b = some o → H' b = some o
section
variable {M N : List Addr} {H H1 H2 H' : Hp} {p : Addr} {o u : HO}
theorem Adv.refl (M : List Addr) (H : Hp) : Adv M H H := fun _ _ _ h => h
theorem Adv.trans (a : Adv M H H1) (b : Adv M H1 H2) : Adv M H H2 := fun c o hc h => b c o hc (a c o hc h)
theorem Adv.more (a : Adv M H H') (h : ∀ b ∈ M, b ∈ N) : Adv N H H' := fun c o hc e => a c o (fun z => hc (h c z)) e
theorem Adv.new (h : H p = none) : Adv M H (upd H p o) := fun b u _ e => by
  rw [upd_ne (ne_of_none e h)]
  exact e
theorem Adv.set (h : p ∈ M) : Adv M H (upd H p o) := fun b u hb e => by
  rw [upd_ne (fun z => hb (by rw [z]; exact h))]
  exact e
theorem Adv.newT (a : Adv M H H1) (h : H1 p = none) : Adv M H (upd H1 p o) := a.trans (Adv.new h)
theorem Adv.setT (a : Adv M H H1) (h : p ∈ M) : Adv M H (upd H1 p o) := a.trans (Adv.set h)
/-- a change at an address that H does not know -/
theorem Adv.mut (a : Adv M H H1) (h : H p = none) : Adv M H (upd H1 p o) := fun b u hb e => by
  rw [upd_ne (ne_of_none e h)]
  exact a b u hb e
theorem Adv.free (a : Adv M H H') (hp : p ∉ M) (h : H' p = none) : H p = none := by
  cases q : H p with
  | none => rfl
  | some o =>
    rw [a p o hp q] at h
    cases h
theorem Adv.same (a : Adv [] H H') : Same H H' := fun b o e => a b o (by simp) e
theorem Adv.ofSame (a : Same H H') : Adv M H H' := fun b o _ e => a b o e
theorem Adv.get (a : Adv M H H') (e : H p = some o) (hp : p ∉ M) : H' p = some o := a p o hp e
/-- M's last address is new: it need not be told -/
theorem Adv.drop (a : Adv (p :: M) H H') (h : H p = none) : Adv M H H' := fun b u hb e => a b u (fun z => by
  rcases List.mem_cons.mp z with z | z
  · rw [z, h] at e; cases e
  · exact hb z) e
end
theorem ne_lst_ints {l : Addr} {c k : Int} {ns : List Int} : HO.lst [V.ref l, .int c, .int k] ≠ HO.lst (ns.map V.int) := by
  intro e
  have e2 : [V.ref l, .int c, .int k] = ns.map V.int := by injection e
  cases ns with
  | nil => cases e2
  | cons n r =>
    rw [List.map_cons] at e2
    injection e2 with h _
    cases h

/-! ### plain data -/
/-- the tuples of the written part (they never change), and how a key of parts is hashed -/
class KW where
  tp : Addr → List V → Prop
  hs : List Key → Int
/-- a tuple: tracked, or one of the written part -/
def Tp [KW] (M : List Addr) (H : Hp) (a : Addr) (vs : List V) : Prop := (a ∉ M ∧ H a = some (.tup vs)) ∨ KW.tp a vs
section
variable [KW]
mutual
def Is (M : List Addr) (H : Hp) : PyData → V → Prop
  | .none, v => v = .non
  | .bool b, v => v = .bl b
  | .int i, v => v = .int i
  | .str x, v => v = .str x
  | .list ds, v => ∃ a vs, v = .ref a ∧ a ∉ M ∧ H a = some (.lst vs) ∧ IsDs M H ds vs
  | .tuple ds, v => ∃ a vs, v = .ref a ∧ Tp M H a vs ∧ IsDs M H ds vs
  | .dict kvs, v => kvs = [] ∧ ∃ a, v = .ref a ∧ a ∉ M ∧ H a = some (.dK [])
def IsDs (M : List Addr) (H : Hp) : List PyData → List V → Prop
  | [], vs => vs = []
  | d :: ds, vs => ∃ v r, vs = v :: r ∧ Is M H d v ∧ IsDs M H ds r
end
section
variable {M N : List Addr} {H H' : Hp} {p : Addr}
theorem Tp.imp (h : ∀ b o, b ∉ M → H b = some o → b ∉ N ∧ H' b = some o) {a : Addr} {vs : List V} (x : Tp M H a vs) : Tp N H' a vs := by
  rcases x with ⟨na, ha⟩ | x
  · exact .inl ⟨(h a _ na ha).1, (h a _ na ha).2⟩
  · exact .inr x
theorem Tp.adv {a : Addr} {vs : List V} (x : Tp M H a vs) (e : Adv M H H') : Tp M H' a vs := x.imp fun b o hb z => ⟨hb, e b o hb z⟩
theorem Tp.less {a : Addr} {vs : List V} (x : Tp M H a vs) (h : ∀ b ∈ N, b ∈ M) : Tp N H a vs := x.imp fun b o hb z => ⟨fun y => hb (h b y), z⟩
theorem Tp.fresh {a : Addr} {vs : List V} (x : Tp M H a vs) (h : H p = none) : Tp (p :: M) H a vs := x.imp fun b o hb e => ⟨fun z => (List.mem_cons.mp z).elim (ne_of_none e h) hb, e⟩
theorem Tp.of {a : Addr} {vs : List V} (h : H a = some (.tup vs)) (na : a ∉ M) : Tp M H a vs := .inl ⟨na, h⟩
mutual
theorem Is.imp (h : ∀ b o, b ∉ M → H b = some o → b ∉ N ∧ H' b = some o) : ∀ (d : PyData) (v : V), Is M H d v → Is N H' d v
  | .none, v, x => by unfold Is at x ⊢; exact x
  | .bool _, v, x => by unfold Is at x ⊢; exact x
  | .int _, v, x => by unfold Is at x ⊢; exact x
  | .str _, v, x => by unfold Is at x ⊢; exact x
  | .list ds, v, x => by
    unfold Is at x ⊢
    obtain ⟨a, vs, rfl, na, ha, hs⟩ := x
    exact ⟨a, vs, rfl, (h a _ na ha).1, (h a _ na ha).2, IsDs.imp h ds vs hs⟩
  | .tuple ds, v, x => by
    unfold Is at x ⊢
    obtain ⟨a, vs, rfl, ha, hs⟩ := x
    exact ⟨a, vs, rfl, ha.imp h, IsDs.imp h ds vs hs⟩
  | .dict kvs, v, x => by
    unfold Is at x ⊢
    obtain ⟨rfl, a, rfl, na, ha⟩ := x
    exact ⟨rfl, a, rfl, (h a _ na ha).1, (h a _ na ha).2⟩
theorem IsDs.imp (h : ∀ b o, b ∉ M → H b = some o → b ∉ N ∧ H' b = some o) : ∀ (ds : List PyData) (vs : List V), IsDs M H ds vs → IsDs N H' ds vs
  | [], vs, x => by unfold IsDs at x ⊢; exact x
  | d :: ds, vs, x => by
    unfold IsDs at x ⊢
    obtain ⟨v, r, rfl, h1, h2⟩ := x
    exact ⟨v, r, rfl, Is.imp h d v h1, IsDs.imp h ds r h2⟩
end
theorem Is.adv {d : PyData} {v : V} (x : Is M H d v) (a : Adv M H H') : Is M H' d v := Is.imp (fun b o hb e => ⟨hb, a b o hb e⟩) d v x
theorem IsDs.adv {ds : List PyData} {vs : List V} (x : IsDs M H ds vs) (a : Adv M H H') : IsDs M H' ds vs := IsDs.imp (fun b o hb e => ⟨hb, a b o hb e⟩) ds vs x
theorem Is.less {d : PyData} {v : V} (x : Is M H d v) (h : ∀ b ∈ N, b ∈ M) : Is N H d v := Is.imp (fun b o hb e => ⟨fun z => hb (h b z), e⟩) d v x
theorem IsDs.less {ds : List PyData} {vs : List V} (x : IsDs M H ds vs) (h : ∀ b ∈ N, b ∈ M) : IsDs N H ds vs := IsDs.imp (fun b o hb e => ⟨fun z => hb (h b z), e⟩) ds vs x
theorem Is.fresh {d : PyData} {v : V} (x : Is M H d v) (h : H p = none) : Is (p :: M) H d v := Is.imp (fun b o hb e => ⟨fun z => (List.mem_cons.mp z).elim (ne_of_none e h) hb, e⟩) d v x
theorem IsDs.fresh {ds : List PyData} {vs : List V} (x : IsDs M H ds vs) (h : H p = none) : IsDs (p :: M) H ds vs := IsDs.imp (fun b o hb e => ⟨fun z => (List.mem_cons.mp z).elim (ne_of_none e h) hb, e⟩) ds vs x
theorem IsDs.len : ∀ {ds : List PyData} {vs : List V}, IsDs M H ds vs → vs.length = ds.length
  | [], vs, x => by unfold IsDs at x; rw [x]; rfl
  | d :: ds, vs, x => by
    unfold IsDs at x
    obtain ⟨v, r, rfl, _, h2⟩ := x
    rw [List.length_cons, List.length_cons, h2.len]
theorem IsDs.get : ∀ {ds : List PyData} {vs : List V} {i : Nat} {d : PyData}, IsDs M H ds vs → ds[i]? = some d → ∃ v, vs[i]? = some v ∧ Is M H d v
  | [], vs, i, d, x, e => by simp at e
  | c :: ds, vs, 0, d, x, e => by
    unfold IsDs at x
    obtain ⟨v, r, rfl, h1, h2⟩ := x
    have e' : c = d := Option.some.inj e
    subst e'
    exact ⟨v, rfl, h1⟩
  | c :: ds, vs, i + 1, d, x, e => by
    unfold IsDs at x
    obtain ⟨v, r, rfl, h1, h2⟩ := x
    exact h2.get (i := i) (by simpa using e)
theorem IsDs.getV : ∀ {ds : List PyData} {vs : List V} {i : Nat} {v : V}, IsDs M H ds vs → vs[i]? = some v → ∃ d, ds[i]? = some d ∧ Is M H d v := fun {ds vs i v} x e => by
  have hi : i < ds.length := by rw [← x.len]; exact (List.getElem?_eq_some_iff.mp e).1
  obtain ⟨w, e2, h⟩ := x.get (List.getElem?_eq_getElem hi)
  rw [e] at e2
  cases e2
  exact ⟨_, List.getElem?_eq_getElem hi, h⟩
theorem IsDs.app : ∀ {ds es : List PyData} {vs ws : List V}, IsDs M H ds vs → IsDs M H es ws → IsDs M H (ds ++ es) (vs ++ ws)
  | [], es, vs, ws, x, y => by unfold IsDs at x; subst x; exact y
  | d :: ds, es, vs, ws, x, y => by
    unfold IsDs at x
    obtain ⟨v, r, rfl, h1, h2⟩ := x
    show IsDs M H (d :: (ds ++ es)) (v :: (r ++ ws))
    unfold IsDs
    exact ⟨v, r ++ ws, rfl, h1, h2.app y⟩
theorem IsDs.one {d : PyData} {v : V} (x : Is M H d v) : IsDs M H [d] [v] := by
  unfold IsDs
  exact ⟨v, [], rfl, x, by unfold IsDs; rfl⟩
theorem IsDs.nil : IsDs M H [] [] := by unfold IsDs; rfl
theorem IsDs.cons {d : PyData} {v : V} {ds : List PyData} {vs : List V} (x : Is M H d v) (y : IsDs M H ds vs) : IsDs M H (d :: ds) (v :: vs) := by
  unfold IsDs
  exact ⟨v, vs, rfl, x, y⟩
theorem IsDs.set : ∀ {ds : List PyData} {vs : List V} {i : Nat} {d : PyData} {v : V}, IsDs M H ds vs → Is M H d v → IsDs M H (ds.set i d) (vs.set i v)
  | [], vs, i, d, v, x, y => by unfold IsDs at x; subst x; exact .nil
  | c :: ds, vs, 0, d, v, x, y => by
    unfold IsDs at x
    obtain ⟨w, r, rfl, h1, h2⟩ := x
    exact .cons y h2
  | c :: ds, vs, i + 1, d, v, x, y => by
    unfold IsDs at x
    obtain ⟨w, r, rfl, h1, h2⟩ := x
    exact .cons h1 (h2.set y)
theorem IsDs.drop : ∀ {ds : List PyData} {vs : List V} (i : Nat), IsDs M H ds vs → IsDs M H (ds.drop i) (vs.drop i)
  | ds, vs, 0, x => x
  | [], vs, i + 1, x => by unfold IsDs at x; subst x; exact .nil
  | c :: ds, vs, i + 1, x => by
    unfold IsDs at x
    obtain ⟨w, r, rfl, h1, h2⟩ := x
    exact h2.drop i
theorem Is.int {i : Int} : Is M H (.int i) (.int i) := by unfold Is; rfl
theorem Is.str {x : Str} : Is M H (.str x) (.str x) := by unfold Is; rfl
theorem Is.bl {b : Bool} : Is M H (.bool b) (.bl b) := by unfold Is; rfl
theorem Is.non : Is M H .none .non := by unfold Is; rfl
theorem Is.lst {a : Addr} {ds : List PyData} {vs : List V} (h : H a = some (.lst vs)) (hn : a ∉ M) (x : IsDs M H ds vs) : Is M H (.list ds) (.ref a) := by
  unfold Is
  exact ⟨a, vs, rfl, hn, h, x⟩
theorem Is.tup {a : Addr} {ds : List PyData} {vs : List V} (h : H a = some (.tup vs)) (hn : a ∉ M) (x : IsDs M H ds vs) : Is M H (.tuple ds) (.ref a) := by
  unfold Is
  exact ⟨a, vs, rfl, .inl ⟨hn, h⟩, x⟩
theorem Is.tp {a : Addr} {ds : List PyData} {vs : List V} (h : Tp M H a vs) (x : IsDs M H ds vs) : Is M H (.tuple ds) (.ref a) := by
  unfold Is
  exact ⟨a, vs, rfl, h, x⟩
theorem Is.dic {a : Addr} (h : H a = some (.dK [])) (hn : a ∉ M) : Is M H (.dict []) (.ref a) := by
  unfold Is
  exact ⟨rfl, a, rfl, hn, h⟩
theorem Is.intE {i : Int} {v : V} (x : Is M H (.int i) v) : v = .int i := by unfold Is at x; exact x
theorem Is.strE {i : Str} {v : V} (x : Is M H (.str i) v) : v = .str i := by unfold Is at x; exact x
theorem Is.blE {i : Bool} {v : V} (x : Is M H (.bool i) v) : v = .bl i := by unfold Is at x; exact x
theorem Is.nonE {v : V} (x : Is M H .none v) : v = .non := by unfold Is at x; exact x
theorem Is.lstE {ds : List PyData} {v : V} (x : Is M H (.list ds) v) : ∃ a vs, v = .ref a ∧ a ∉ M ∧ H a = some (.lst vs) ∧ IsDs M H ds vs := by unfold Is at x; exact x
theorem Is.tupE {ds : List PyData} {v : V} (x : Is M H (.tuple ds) v) : ∃ a vs, v = .ref a ∧ Tp M H a vs ∧ IsDs M H ds vs := by unfold Is at x; exact x
theorem Is.dicE {kvs : List (PyData × PyData)} {v : V} (x : Is M H (.dict kvs) v) : kvs = [] ∧ ∃ a, v = .ref a ∧ a ∉ M ∧ H a = some (.dK []) := by unfold Is at x; exact x
end
end
mutual
/-- how many values a datum has, itself among them -/
def sz : PyData → Nat
  | .list ds => 1 + szL ds
  | .tuple ds => 1 + szL ds
  | _ => 1
def szL : List PyData → Nat
  | [] => 0
  | d :: ds => sz d + szL ds
end
mutual
def dep : PyData → Nat
  | .list ds => 1 + depL ds
  | .tuple ds => 1 + depL ds
  | _ => 0
def depL : List PyData → Nat
  | [] => 0
  | d :: ds => max (dep d) (depL ds)
end
theorem sz_pos : ∀ d : PyData, 1 ≤ sz d
  | .none => by unfold sz; exact Nat.le_refl _
  | .bool _ => by unfold sz; exact Nat.le_refl _
  | .int _ => by unfold sz; exact Nat.le_refl _
  | .str _ => by unfold sz; exact Nat.le_refl _
  | .list ds => by unfold sz; omega
  | .tuple ds => by unfold sz; omega
  | .dict _ => by unfold sz; exact Nat.le_refl _
theorem szL_nil : szL [] = 0 := by rw [szL]
theorem szL_cons (d : PyData) (ds : List PyData) : szL (d :: ds) = sz d + szL ds := by rw [szL]
theorem szL_app : ∀ ds es : List PyData, szL (ds ++ es) = szL ds + szL es
  | [], es => by rw [List.nil_append, szL_nil, Nat.zero_add]
  | d :: ds, es => by rw [List.cons_append, szL_cons, szL_cons, szL_app ds es, Nat.add_assoc]
theorem dep_mem : ∀ {ds : List PyData} {d : PyData}, d ∈ ds → dep d ≤ depL ds
  | c :: ds, d, h => by
    unfold depL
    rcases List.mem_cons.mp h with e | h
    · rw [e]; exact Nat.le_max_left _ _
    · exact Nat.le_trans (dep_mem h) (Nat.le_max_right _ _)

/-! ### the stream of draws -/
/-- a stream stands at s: the script's copy (none of M), the cell's rest, the next cell's number -/
def StrAt (M : List Addr) (H : Hp) (s : Addr) : Prop := ∃ (l : Addr) (ns : List Int) (c k : Int), H s = some (.lst [V.ref l, .int c, .int k]) ∧ H l = some (.lst (ns.map V.int)) ∧ 0 ≤ c ∧ 0 ≤ k ∧ l ∉ M
section
variable {M N : List Addr} {H H' : Hp} {s p : Addr}
theorem StrAt.adv (x : StrAt M H s) (a : Adv N H H') (hs : s ∉ N) (hn : ∀ b ∈ N, b ∈ M) : StrAt M H' s := by
  obtain ⟨l, ns, c, k, h1, h2, h3, h4, h5⟩ := x
  exact ⟨l, ns, c, k, a _ _ hs h1, a _ _ (fun z => h5 (hn l z)) h2, h3, h4, h5⟩
theorem StrAt.same (x : StrAt M H s) (a : Adv [] H H') : StrAt M H' s := x.adv a (by simp) (fun b z => by simp at z)
theorem StrAt.fresh (x : StrAt M H s) (h : H p = none) : StrAt (p :: M) H s := by
  obtain ⟨l, ns, c, k, h1, h2, h3, h4, h5⟩ := x
  exact ⟨l, ns, c, k, h1, h2, h3, h4, fun z => (List.mem_cons.mp z).elim (ne_of_none h2 h) h5⟩
theorem StrAt.less (x : StrAt M H s) (h : ∀ b ∈ N, b ∈ M) : StrAt N H s := by
  obtain ⟨l, ns, c, k, h1, h2, h3, h4, h5⟩ := x
  exact ⟨l, ns, c, k, h1, h2, h3, h4, fun z => h5 (h l z)⟩
theorem StrAt.here (x : StrAt M H s) : H s ≠ none := by
  obtain ⟨l, ns, c, k, h1, _⟩ := x
  rw [h1]
  simp
end

/-! ### defs -/
/-- a def of the text where it stands behind the top -/
structure Df (K : PySem.W.Frag) (mg : Str → Option Value) (x : Str) (st : Stmt) (ps : List Str) where
  f : Addr
  fd : FuncData
  F : Fun K x x st f fd
  m : mg x = some (.ref f)
  b : Binds K fd ps []
theorem ix_or {X : Cx} {r r' : R2} (h : IxR X r) (h' : IxR X r') : IxR X (fun x y H Q => r x y H Q ∨ r' x y H Q) := by
  intro value slice pins s σ H x y v u Q I rx ry q e
  rcases q with q | q
  · exact h value slice pins s σ H x y v u Q I rx ry q e
  · exact h' value slice pins s σ H x y v u Q I rx ry q e
theorem call_or {X : Cx} {f : Value} {r r' : List V → Hp → VK → Prop} (h : CallR X f r) (h' : CallR X f r') : CallR X f (fun xs H Q => r xs H Q ∨ r' xs H Q) := by
  intro pins s σ H xs us Q I rx q
  rcases q with q | q
  · exact h pins s σ H xs us Q I rx q
  · exact h' pins s σ H xs us Q I rx q
theorem ix_any {X : Cx} (K : PySem.W.Frag) (h : X.K = K) : IxR X (fun x y H Q => rIxL K x y H Q ∨ rIxT K x y H Q) := by
  subst h
  exact ix_or ix_list ix_tup
end LL

set_option Elab.async false
set_option linter.all false
set_option maxRecDepth 100000
set_option maxHeartbeats 4000000
/-! LSpec: kinds of data; what a node and a sheet are -/
namespace LL
open PySem PySem.Spec PyProof.Rows L2
def tyN : PyData → String
  | .none => "NoneType"
  | .bool _ => "bool"
  | .int _ => "int"
  | .str _ => "str"
  | .list _ => "list"
  | .tuple _ => "tuple"
  | .dict _ => "dict"
/-- what the written part says of the tuples and of the hash -/
structure KWOk [KW] (K : PySem.W.Frag) (w : World) : Prop where
  tp : ∀ a vs, KW.tp a vs → ∃ (o : Obj) (its : Array Value) (n : Nat), K.lookup a = some o ∧ o.cls = .type "tuple" ∧ o.data = .seq its n ∧ its.size ≤ sizeLine ∧ Vals vs its.toList
  hs : ∀ (P : Program) (ks : List Key), KW.hs ks = (tupleKind (mixKind P w)).hash ks
section
variable [KW]
theorem Tp.sq {K : PySem.W.Frag} {w : World} (W : KWOk K w) {M : List Addr} {H : Hp} {a : Addr} {vs : List V} (x : Tp M H a vs) : SqT K H a vs := by
  rcases x with ⟨_, h⟩ | h
  · exact SqT.of h
  · exact .inr (W.tp a vs h)
theorem Is.ty {K : PySem.W.Frag} {w : World} (W : KWOk K w) {M : List Addr} {H : Hp} : ∀ {d : PyData} {v : V}, Is M H d v → TyX K H v (.type (tyN d))
  | .none, v, x => by rw [x.nonE]; exact .base .non
  | .bool _, v, x => by rw [x.blE]; exact .base (.bl _)
  | .int _, v, x => by rw [x.intE]; exact .base (.int _)
  | .str _, v, x => by rw [x.strE]; exact .base (.str _)
  | .list _, v, x => by
    obtain ⟨a, vs, rfl, _, h, _⟩ := x.lstE
    exact .base (.lst h)
  | .tuple _, v, x => by
    obtain ⟨a, vs, rfl, h, _⟩ := x.tupE
    rcases h with ⟨_, h⟩ | h
    · exact .base (.tup h)
    · obtain ⟨o, its, n, h1, h2, _⟩ := W.tp a vs h
      exact .kTuple h1 h2
  | .dict _, v, x => by
    obtain ⟨_, a, rfl, _, h⟩ := x.dicE
    exact .base (.dK h)
end
/-- isinstance(v, one of the six built-in kinds) -/
def kitD (d : PyData) (n : String) : Bool := match d with
  | .bool _ => n == "bool" || n == "int"
  | d => n == tyN d
theorem kit_one {K : PySem.W.Frag} (d : PyData) (n : String) (h : n = "int" ∨ n = "bool" ∨ n = "str" ∨ n = "list" ∨ n = "tuple" ∨ n = "dict") : PySem.W.kitOne K (.type (tyN d)) (.type n) = some (kitD d n) := by
  refine kit_ty ?_
  have fin : ∀ t ∈ ["NoneType", "bool", "int", "str", "list", "tuple", "dict"], ∀ n ∈ ["int", "bool", "str", "list", "tuple", "dict"], kitB t n = some (if t = "bool" then (n == "bool" || n == "int") else n == t) := by decide +kernel
  have hn : n ∈ ["int", "bool", "str", "list", "tuple", "dict"] := by simpa using h
  cases d with
  | bool b => exact fin "bool" (by simp) n hn
  | none => exact fin "NoneType" (by simp) n hn
  | int i => exact fin "int" (by simp) n hn
  | str i => exact fin "str" (by simp) n hn
  | list i => exact fin "list" (by simp) n hn
  | tuple i => exact fin "tuple" (by simp) n hn
  | dict i => exact fin "dict" (by simp) n hn
theorem k_int {K : PySem.W.Frag} (d : PyData) : PySem.W.kitOne K (.type (tyN d)) (.type "int") = some (kitD d "int") := kit_one d "int" (by simp)
theorem k_bool {K : PySem.W.Frag} (d : PyData) : PySem.W.kitOne K (.type (tyN d)) (.type "bool") = some (kitD d "bool") := kit_one d "bool" (by simp)
theorem k_str {K : PySem.W.Frag} (d : PyData) : PySem.W.kitOne K (.type (tyN d)) (.type "str") = some (kitD d "str") := kit_one d "str" (by simp)
theorem k_list {K : PySem.W.Frag} (d : PyData) : PySem.W.kitOne K (.type (tyN d)) (.type "list") = some (kitD d "list") := kit_one d "list" (by simp)
theorem k_tuple {K : PySem.W.Frag} (d : PyData) : PySem.W.kitOne K (.type (tyN d)) (.type "tuple") = some (kitD d "tuple") := kit_one d "tuple" (by simp)
theorem k_dict {K : PySem.W.Frag} (d : PyData) : PySem.W.kitOne K (.type (tyN d)) (.type "dict") = some (kitD d "dict") := kit_one d "dict" (by simp)
/-! ### nodes -/
def isNum (lo hi : Int) : PyData → Bool
  | .int i => decide (lo ≤ i) && decide (i ≤ hi)
  | _ => false
/-- how many items a node of this word has -/
def nItems (w : Str) : Option Nat :=
  if w = "letter" then some 2 else if w = "no" then some 1 else if w = "and" then some 3 else if w = "or" then some 3 else if w = "if" then some 3 else if w = "box" then some 2 else none
def nodeB (boxed : Bool) (row : Int) : PyData → Bool
  | .tuple (.str w :: ps) => if nItems w = some (ps.length + 1) then (if w = "letter" then ps.all (isNum 0 7) else if w = "box" && !boxed then false else ps.all (isNum 0 (row - 1))) else false
  | _ => false
/-- a node as a key -/
def keyD : PyData → Key
  | .int i => .inl i
  | .str x => .inr x
  | _ => .inl 0
def keysD : PyData → List Key
  | .tuple ds => ds.map keyD
  | _ => []
/-- the first wrong row behind row at, whose earlier nodes are seen -/
def memK (k : List Key) (l : List (List Key)) : Bool := l.any fun x => decide (x = k)
def wrongF (most : Int) (boxed : Bool) : Int → List (List Key) → List PyData → Option Int
  | _, _, [] => none
  | at_, seen, d :: ds => if at_ < most then (if nodeB boxed at_ d then (if memK (keysD d) seen = true then some at_ else wrongF most boxed (at_ + 1) (seen ++ [keysD d]) ds) else some at_) else some at_
def wrongD (most : Int) (boxed : Bool) : PyData → Option Int
  | .list ds => wrongF most boxed 0 [] ds
  | _ => some (-1)
section
variable [KW]
theorem node_keys {boxed : Bool} {row : Int} {d : PyData} {v : V} {M : List Addr} {H : Hp} (x : Is M H d v) (h : nodeB boxed row d = true) : ∃ a, v = .ref a ∧ Tp M H a ((keysD d).map kV) := by
  unfold nodeB at h
  split at h
  · rename_i w ps
    obtain ⟨a, vs, rfl, ha, hs⟩ := x.tupE
    refine ⟨a, rfl, ?_⟩
    have hall : ∀ p ∈ ps, ∃ i, p = .int i := by
      have num : ∀ lo hi, ps.all (isNum lo hi) = true → ∀ p ∈ ps, ∃ i, p = PyData.int i := fun lo hi hh p hp => by
        have q := List.all_eq_true.mp hh p hp
        cases p with
        | int i => exact ⟨i, rfl⟩
        | _ => cases q
      split at h
      · split at h
        · exact num _ _ h
        · split at h
          · cases h
          · exact num _ _ h
      · cases h
    have key : ∀ (ds : List PyData) (vs : List V), (∀ p ∈ ds, ∃ i, p = PyData.int i) → IsDs M H ds vs → vs = (ds.map keyD).map kV := by
      intro ds
      induction ds with
      | nil => intro vs _ y; unfold IsDs at y; exact y
      | cons c ds ih =>
        intro vs hh y
        unfold IsDs at y
        obtain ⟨u, r, rfl, h1, h2⟩ := y
        obtain ⟨i, rfl⟩ := hh c (by simp)
        rw [h1.intE, ih r (fun p hp => hh p (by simp [hp])) h2]
        rfl
    unfold IsDs at hs
    obtain ⟨u, r, rfl, h1, h2⟩ := hs
    rw [h1.strE, key ps r hall h2] at ha
    exact ha
  · cases h
end
end LL

set_option Elab.async false
set_option linter.all false
set_option maxRecDepth 100000
set_option maxHeartbeats 4000000
/-! LMore: a written dict's get; comprehensions that map -/
namespace LL
open PySem PySem.Spec PyProof.Rows L2
variable [KW]
theorem SqT.adv {K : PySem.W.Frag} {H H' : Hp} {a : Addr} {xs : List V} (e : Adv [] H H') (h : SqT K H a xs) : SqT K H' a xs := by
  rcases h with (h | ⟨o, h⟩) | h
  · exact .inl (.inl (e.same _ _ h))
  · exact .inl (.inr ⟨o, e.same _ _ h⟩)
  · exact .inr h
theorem SqL.adv {K : PySem.W.Frag} {H H' : Hp} {a : Addr} {xs : List V} (e : Adv [] H H') (h : SqL K H a xs) : SqL K H' a xs := by
  rcases h with (h | ⟨o, h⟩) | h
  · exact .inl (.inl (e.same _ _ h))
  · exact .inl (.inr ⟨o, e.same _ _ h⟩)
  · exact .inr h
/-- d.get(k), d a dict of the text's top whose keys are texts -/
def tKGet (K : PySem.W.Frag) (w : World) (td ty : TE) : TE := fun σ H Q => td σ H fun x H1 => ∃ (d : Addr) (es : Array DictEntry) (n : Nat), x = .ref d ∧ KDict K w d es n ∧
  ty σ H1 fun y H2 => ∃ (z : Str) (r : Option Value) (v : V), y = .str z ∧ PySem.W.nsIn K d z = some r ∧ RelV v (r.getD .none) ∧ Q v H2
theorem pe_kget {X : Cx} {o e : Expr} {apos cpos : Pos} {td ty : TE} (ho : PE X o td) (he : PE X e ty) (m : M1 X o "get" apos e cpos) : PE X (.Call (.Attribute o "get" apos) [e] [] cpos) (tKGet X.K X.w td ty) := by
  refine ⟨fun pins s σ H Q I h => ?_⟩
  refine wpAny_Call_method m.base m.few m.line PySem.F.plainAttrs_dict PySem.F.slot_dict_get PySem.F.type_dict_get (thn (ho.run pins s σ H _ I h) fun u s1 q => ?_)
  obtain ⟨x, H1, I1, rx, d, es, n, ex, KD, q1⟩ := q
  subst ex
  cases (show u = Value.ref d from rx)
  refine ⟨kd_type KD I1, fun b eb => ?_, ?_⟩
  · cases eb
    exact ⟨_, I1.kIn _ _ KD.at_, rfl⟩
  · rw [m.trees]
    refine Calls.callWith_builtin rfl (Calls.evalArgs_plain (Calls.spliced_cons (thn (he.run pins s1 σ H1 _ I1 q1) fun iv s2 q2 => Calls.spliced_nil ?_)))
    obtain ⟨y, H2, I2, ry, z, r, v, ey, en, rv, q3⟩ := q2
    subst ey
    obtain ⟨t, rfl⟩ := ry
    have mo := PySem.W.mapOf_K (prog := X.prog) (w := X.w) I2.kIn KD.at_ KD.lit
    refine call_meetsIn PySem.F.slot_dict_get mo.typeIs PySem.F.entry_dict_get (PySem.F.args_dict_get_2 _ _) (meets_dict_get (strKind X.prog X.w) d (PySem.strKind_is X.prog X.w z t) KD.low) ⟨_, mo, ⟨v, H2, I2.tok _, ?_, q3⟩⟩
    rw [PySem.W.find_K KD.at_ en]
    exact rv
section
variable {K : PySem.W.Frag} {a D : Addr} {xs : List V} {g : TG} {te : TE} {vs : List Nat} {σ : L2.St} {H1 : Hp} {Qd : Hp → Prop}
theorem range_map_succ (ys : Nat → V) (i : Nat) : (List.range (i + 1)).map ys = (List.range i).map ys ++ [ys i] := by rw [List.range_succ, List.map_append]; rfl
/-- [e for x in t], t a tuple: e gives ys i at its i-th item -/
theorem lc_mapT (ys : Nat → V) (hD : H1 D = none) (src : SqT K H1 a xs) (hz : xs.length ≤ 1000000)
    (hs : ∀ (i : Nat) (x : V) (H : Hp) (acc : List V) (R : V → Hp → Prop), xs[i]? = some x → Adv [] H1 H → H D = some (.lst acc) → (∀ H4, H4 D = some (.lst acc) → Adv [] H1 H4 → R (ys i) H4) → g x (wipe σ vs) H fun σ2 H2 => wipe σ2 vs = wipe σ vs ∧ te σ2 H2 R)
    (hd : ∀ H, Adv [] H1 H → H D = some (.lst ((List.range xs.length).map ys)) → Qd H) :
    ∃ W : Nat → Nat → Hp → Prop, (∃ m, W 0 m (upd H1 D (.lst []))) ∧ ∀ i m H, W i m H →
      ((Itt K a).stop i H ∧ Qd H) ∨ ((Itt K a).go i H ∧ ∃ Nx : Hp → Prop, (∀ H', Nx H' → ∃ m', m' < m ∧ W (i + 1) m' H') ∧ ∀ x H', (Itt K a).yld i H x H' → g x (wipe σ vs) H' fun σ2 H2 => wipe σ2 vs = wipe σ vs ∧ tYes σ2 H2 fun b H3 =>
        if b = true then te σ2 H3 fun y H4 => ∃ acc, H4 D = some (.lst acc) ∧ acc.length < sizeLine ∧ Nx (upd H4 D (.lst (acc ++ [y]))) else Nx H3) := by
  refine lc_tup (K := K) (a := a) (xs := xs) (tt := tYes) (fun i H => Adv [] H1 H ∧ H D = some (.lst ((List.range i).map ys))) ⟨Adv.new hD, upd_same⟩ (fun i H _ p => SqT.adv p.1 src) (fun i x H hx p => ?_) (fun H p => hd H p.1 p.2)
  have hi : i < xs.length := (List.getElem?_eq_some_iff.mp hx).1
  refine hs i x H _ (fun y H4 => ∃ acc, H4 D = some (.lst acc) ∧ acc.length < sizeLine ∧ Adv [] H1 (upd H4 D (.lst (acc ++ [y]))) ∧ (upd H4 D (.lst (acc ++ [y]))) D = some (.lst ((List.range (i + 1)).map ys))) hx p.1 p.2 (fun H4 e4 a4 => ⟨_, e4, ?_, Adv.mut a4 hD, ?_⟩)
  · rw [List.length_map, List.length_range, sizeLine_eq]
    omega
  · rw [upd_same, range_map_succ]
theorem lc_mapL (ys : Nat → V) (hD : H1 D = none) (src : SqL K H1 a xs) (hz : xs.length ≤ 1000000)
    (hs : ∀ (i : Nat) (x : V) (H : Hp) (acc : List V) (R : V → Hp → Prop), xs[i]? = some x → Adv [] H1 H → H D = some (.lst acc) → (∀ H4, H4 D = some (.lst acc) → Adv [] H1 H4 → R (ys i) H4) → g x (wipe σ vs) H fun σ2 H2 => wipe σ2 vs = wipe σ vs ∧ te σ2 H2 R)
    (hd : ∀ H, Adv [] H1 H → H D = some (.lst ((List.range xs.length).map ys)) → Qd H) :
    ∃ W : Nat → Nat → Hp → Prop, (∃ m, W 0 m (upd H1 D (.lst []))) ∧ ∀ i m H, W i m H →
      ((Itl K a).stop i H ∧ Qd H) ∨ ((Itl K a).go i H ∧ ∃ Nx : Hp → Prop, (∀ H', Nx H' → ∃ m', m' < m ∧ W (i + 1) m' H') ∧ ∀ x H', (Itl K a).yld i H x H' → g x (wipe σ vs) H' fun σ2 H2 => wipe σ2 vs = wipe σ vs ∧ tYes σ2 H2 fun b H3 =>
        if b = true then te σ2 H3 fun y H4 => ∃ acc, H4 D = some (.lst acc) ∧ acc.length < sizeLine ∧ Nx (upd H4 D (.lst (acc ++ [y]))) else Nx H3) := by
  refine lc_list (K := K) (a := a) (xs := xs) (tt := tYes) (fun i H => Adv [] H1 H ∧ H D = some (.lst ((List.range i).map ys))) ⟨Adv.new hD, upd_same⟩ (fun i H _ p => SqL.adv p.1 src) (fun i x H hx p => ?_) (fun H p => hd H p.1 p.2)
  have hi : i < xs.length := (List.getElem?_eq_some_iff.mp hx).1
  refine hs i x H _ (fun y H4 => ∃ acc, H4 D = some (.lst acc) ∧ acc.length < sizeLine ∧ Adv [] H1 (upd H4 D (.lst (acc ++ [y]))) ∧ (upd H4 D (.lst (acc ++ [y]))) D = some (.lst ((List.range (i + 1)).map ys))) hx p.1 p.2 (fun H4 e4 a4 => ⟨_, e4, ?_, Adv.mut a4 hD, ?_⟩)
  · rw [List.length_map, List.length_range, sizeLine_eq]
    omega
  · rw [upd_same, range_map_succ]
theorem lc_mapR {n : Nat} (ys : Nat → V) (hD : H1 D = none) (hz : n ≤ 1000000)
    (hs : ∀ (i : Nat) (H : Hp) (acc : List V) (R : V → Hp → Prop), i < n → Adv [] H1 H → H D = some (.lst acc) → (∀ H4, H4 D = some (.lst acc) → Adv [] H1 H4 → R (ys i) H4) → g (.int (0 + (i : Nat))) (wipe σ vs) H fun σ2 H2 => wipe σ2 vs = wipe σ vs ∧ te σ2 H2 R)
    (hd : ∀ H, Adv [] H1 H → H D = some (.lst ((List.range n).map ys)) → Qd H) :
    ∃ W : Nat → Nat → Hp → Prop, (∃ m, W 0 m (upd H1 D (.lst []))) ∧ ∀ i m H, W i m H →
      ((Itr 0 n).stop i H ∧ Qd H) ∨ ((Itr 0 n).go i H ∧ ∃ Nx : Hp → Prop, (∀ H', Nx H' → ∃ m', m' < m ∧ W (i + 1) m' H') ∧ ∀ x H', (Itr 0 n).yld i H x H' → g x (wipe σ vs) H' fun σ2 H2 => wipe σ2 vs = wipe σ vs ∧ tYes σ2 H2 fun b H3 =>
        if b = true then te σ2 H3 fun y H4 => ∃ acc, H4 D = some (.lst acc) ∧ acc.length < sizeLine ∧ Nx (upd H4 D (.lst (acc ++ [y]))) else Nx H3) := by
  refine lc_range (lo := 0) (n := n) (tt := tYes) (fun i H => Adv [] H1 H ∧ H D = some (.lst ((List.range i).map ys))) ⟨Adv.new hD, upd_same⟩ (fun i H hi p => ?_) (fun H p => hd H p.1 p.2)
  refine hs i H _ (fun y H4 => ∃ acc, H4 D = some (.lst acc) ∧ acc.length < sizeLine ∧ Adv [] H1 (upd H4 D (.lst (acc ++ [y]))) ∧ (upd H4 D (.lst (acc ++ [y]))) D = some (.lst ((List.range (i + 1)).map ys))) hi p.1 p.2 (fun H4 e4 a4 => ⟨_, e4, ?_, Adv.mut a4 hD, ?_⟩)
  · rw [List.length_map, List.length_range, sizeLine_eq]
    omega
  · rw [upd_same, range_map_succ]
theorem lc_dataR {M : List Addr} {n : Nat} (ds : List PyData) (hn : n = ds.length) (hD : H1 D = none) (hz : n ≤ 1000000)
    (hs : ∀ (i : Nat) (d : PyData) (H : Hp) (acc : List V) (R : V → Hp → Prop), ds[i]? = some d → Adv [] H1 H → H D = some (.lst acc) → (∀ y H4, H4 D = some (.lst acc) → Adv [D] H H4 → Is (D :: M) H4 d y → R y H4) → g (.int (0 + (i : Nat))) (wipe σ vs) H fun σ2 H2 => wipe σ2 vs = wipe σ vs ∧ te σ2 H2 R)
    (hd : ∀ H acc, Adv [] H1 H → H D = some (.lst acc) → IsDs (D :: M) H ds acc → Qd H) :
    ∃ W : Nat → Nat → Hp → Prop, (∃ m, W 0 m (upd H1 D (.lst []))) ∧ ∀ i m H, W i m H →
      ((Itr 0 n).stop i H ∧ Qd H) ∨ ((Itr 0 n).go i H ∧ ∃ Nx : Hp → Prop, (∀ H', Nx H' → ∃ m', m' < m ∧ W (i + 1) m' H') ∧ ∀ x H', (Itr 0 n).yld i H x H' → g x (wipe σ vs) H' fun σ2 H2 => wipe σ2 vs = wipe σ vs ∧ tYes σ2 H2 fun b H3 =>
        if b = true then te σ2 H3 fun y H4 => ∃ acc, H4 D = some (.lst acc) ∧ acc.length < sizeLine ∧ Nx (upd H4 D (.lst (acc ++ [y]))) else Nx H3) := by
  refine lc_range (lo := 0) (n := n) (tt := tYes) (fun i H => Adv [] H1 H ∧ ∃ acc, H D = some (.lst acc) ∧ IsDs (D :: M) H (ds.take i) acc) ⟨Adv.new hD, [], upd_same, .nil⟩ (fun i H hx p => ?_) (fun H p => ?_)
  · have hi : i < ds.length := by
      rw [← hn]
      exact hx
    obtain ⟨a1, acc, hacc, hds⟩ := p
    have hlen := hds.len
    rw [List.length_take, Nat.min_eq_left (Nat.le_of_lt hi)] at hlen
    refine hs i (ds[i]) H acc (fun y H4 => ∃ acc, H4 D = some (.lst acc) ∧ acc.length < sizeLine ∧ Adv [] H1 (upd H4 D (.lst (acc ++ [y]))) ∧ ∃ acc', (upd H4 D (.lst (acc ++ [y]))) D = some (.lst acc') ∧ IsDs (D :: M) (upd H4 D (.lst (acc ++ [y]))) (ds.take (i + 1)) acc')
      (List.getElem?_eq_getElem hi) a1 hacc (fun y H4 e4 a4 hy => ⟨acc, e4, by rw [sizeLine_eq]; omega, ?_, acc ++ [y], upd_same, ?_⟩)
    · exact Adv.mut (((a1.more (N := [D]) (by simp)).trans a4).drop hD) hD
    · have e1 : ds.take (i + 1) = ds.take i ++ [ds[i]] := by rw [List.take_succ, List.getElem?_eq_getElem hi]; rfl
      rw [e1]
      have m1 : ∀ b ∈ [D], b ∈ D :: M := fun b hb => by simp at hb; simp [hb]
      exact ((hds.adv (a4.more m1)).adv (Adv.set (by simp))).app (IsDs.one (hy.adv (Adv.set (by simp))))
  · obtain ⟨a1, acc, hacc, hds⟩ := p
    rw [hn, List.take_length] at hds
    exact hd H acc a1 hacc hds
theorem lc_dataL {M : List Addr} (ds : List PyData) (hn : xs.length = ds.length) (hD : H1 D = none) (src : SqL K H1 a xs) (hz : xs.length ≤ 1000000)
    (hs : ∀ (i : Nat) (x : V) (d : PyData) (H : Hp) (acc : List V) (R : V → Hp → Prop), xs[i]? = some x → ds[i]? = some d → Adv [] H1 H → H D = some (.lst acc) → (∀ y H4, H4 D = some (.lst acc) → Adv [D] H H4 → Is (D :: M) H4 d y → R y H4) → g x (wipe σ vs) H fun σ2 H2 => wipe σ2 vs = wipe σ vs ∧ te σ2 H2 R)
    (hd : ∀ H acc, Adv [] H1 H → H D = some (.lst acc) → IsDs (D :: M) H ds acc → Qd H) :
    ∃ W : Nat → Nat → Hp → Prop, (∃ m, W 0 m (upd H1 D (.lst []))) ∧ ∀ i m H, W i m H →
      ((Itl K a).stop i H ∧ Qd H) ∨ ((Itl K a).go i H ∧ ∃ Nx : Hp → Prop, (∀ H', Nx H' → ∃ m', m' < m ∧ W (i + 1) m' H') ∧ ∀ x H', (Itl K a).yld i H x H' → g x (wipe σ vs) H' fun σ2 H2 => wipe σ2 vs = wipe σ vs ∧ tYes σ2 H2 fun b H3 =>
        if b = true then te σ2 H3 fun y H4 => ∃ acc, H4 D = some (.lst acc) ∧ acc.length < sizeLine ∧ Nx (upd H4 D (.lst (acc ++ [y]))) else Nx H3) := by
  refine lc_list (K := K) (a := a) (xs := xs) (tt := tYes) (fun i H => Adv [] H1 H ∧ ∃ acc, H D = some (.lst acc) ∧ IsDs (D :: M) H (ds.take i) acc) ⟨Adv.new hD, [], upd_same, .nil⟩ (fun i H _ p => SqL.adv p.1 src) (fun i x H hx p => ?_) (fun H p => ?_)
  · have hi : i < ds.length := by
      rw [← hn]
      exact (List.getElem?_eq_some_iff.mp hx).1
    obtain ⟨a1, acc, hacc, hds⟩ := p
    have hlen := hds.len
    rw [List.length_take, Nat.min_eq_left (Nat.le_of_lt hi)] at hlen
    refine hs i x (ds[i]) H acc (fun y H4 => ∃ acc, H4 D = some (.lst acc) ∧ acc.length < sizeLine ∧ Adv [] H1 (upd H4 D (.lst (acc ++ [y]))) ∧ ∃ acc', (upd H4 D (.lst (acc ++ [y]))) D = some (.lst acc') ∧ IsDs (D :: M) (upd H4 D (.lst (acc ++ [y]))) (ds.take (i + 1)) acc')
      hx (List.getElem?_eq_getElem hi) a1 hacc (fun y H4 e4 a4 hy => ⟨acc, e4, by rw [sizeLine_eq]; omega, ?_, acc ++ [y], upd_same, ?_⟩)
    · exact Adv.mut (((a1.more (N := [D]) (by simp)).trans a4).drop hD) hD
    · have e1 : ds.take (i + 1) = ds.take i ++ [ds[i]] := by rw [List.take_succ, List.getElem?_eq_getElem hi]; rfl
      rw [e1]
      have m1 : ∀ b ∈ [D], b ∈ D :: M := fun b hb => by simp at hb; simp [hb]
      exact ((hds.adv (a4.more m1)).adv (Adv.set (by simp))).app (IsDs.one (hy.adv (Adv.set (by simp))))
  · obtain ⟨a1, acc, hacc, hds⟩ := p
    rw [hn, List.take_length] at hds
    exact hd H acc a1 hacc hds
theorem lc_dataT {M : List Addr} (ds : List PyData) (hn : xs.length = ds.length) (hD : H1 D = none) (src : SqT K H1 a xs) (hz : xs.length ≤ 1000000)
    (hs : ∀ (i : Nat) (x : V) (d : PyData) (H : Hp) (acc : List V) (R : V → Hp → Prop), xs[i]? = some x → ds[i]? = some d → Adv [] H1 H → H D = some (.lst acc) → (∀ y H4, H4 D = some (.lst acc) → Adv [D] H H4 → Is (D :: M) H4 d y → R y H4) → g x (wipe σ vs) H fun σ2 H2 => wipe σ2 vs = wipe σ vs ∧ te σ2 H2 R)
    (hd : ∀ H acc, Adv [] H1 H → H D = some (.lst acc) → IsDs (D :: M) H ds acc → Qd H) :
    ∃ W : Nat → Nat → Hp → Prop, (∃ m, W 0 m (upd H1 D (.lst []))) ∧ ∀ i m H, W i m H →
      ((Itt K a).stop i H ∧ Qd H) ∨ ((Itt K a).go i H ∧ ∃ Nx : Hp → Prop, (∀ H', Nx H' → ∃ m', m' < m ∧ W (i + 1) m' H') ∧ ∀ x H', (Itt K a).yld i H x H' → g x (wipe σ vs) H' fun σ2 H2 => wipe σ2 vs = wipe σ vs ∧ tYes σ2 H2 fun b H3 =>
        if b = true then te σ2 H3 fun y H4 => ∃ acc, H4 D = some (.lst acc) ∧ acc.length < sizeLine ∧ Nx (upd H4 D (.lst (acc ++ [y]))) else Nx H3) := by
  refine lc_tup (K := K) (a := a) (xs := xs) (tt := tYes) (fun i H => Adv [] H1 H ∧ ∃ acc, H D = some (.lst acc) ∧ IsDs (D :: M) H (ds.take i) acc) ⟨Adv.new hD, [], upd_same, .nil⟩ (fun i H _ p => SqT.adv p.1 src) (fun i x H hx p => ?_) (fun H p => ?_)
  · have hi : i < ds.length := by
      rw [← hn]
      exact (List.getElem?_eq_some_iff.mp hx).1
    obtain ⟨a1, acc, hacc, hds⟩ := p
    have hlen := hds.len
    rw [List.length_take, Nat.min_eq_left (Nat.le_of_lt hi)] at hlen
    refine hs i x (ds[i]) H acc (fun y H4 => ∃ acc, H4 D = some (.lst acc) ∧ acc.length < sizeLine ∧ Adv [] H1 (upd H4 D (.lst (acc ++ [y]))) ∧ ∃ acc', (upd H4 D (.lst (acc ++ [y]))) D = some (.lst acc') ∧ IsDs (D :: M) (upd H4 D (.lst (acc ++ [y]))) (ds.take (i + 1)) acc')
      hx (List.getElem?_eq_getElem hi) a1 hacc (fun y H4 e4 a4 hy => ⟨acc, e4, by rw [sizeLine_eq]; omega, ?_, acc ++ [y], upd_same, ?_⟩)
    · exact Adv.mut (((a1.more (N := [D]) (by simp)).trans a4).drop hD) hD
    · have e1 : ds.take (i + 1) = ds.take i ++ [ds[i]] := by rw [List.take_succ, List.getElem?_eq_getElem hi]; rfl
      rw [e1]
      have m1 : ∀ b ∈ [D], b ∈ D :: M := fun b hb => by simp at hb; simp [hb]
      exact ((hds.adv (a4.more m1)).adv (Adv.set (by simp))).app (IsDs.one (hy.adv (Adv.set (by simp))))
  · obtain ⟨a1, acc, hacc, hds⟩ := p
    rw [hn, List.take_length] at hds
    exact hd H acc a1 hacc hds
theorem range_filt_succ (ys : Nat → V) (c : Nat → Bool) (i : Nat) : ((List.range (i + 1)).filter c).map ys = ((List.range i).filter c).map ys ++ (if c i = true then [ys i] else []) := by
  rw [List.range_succ, List.filter_append, List.map_append]
  congr 1
  cases h : c i <;> simp [h]
/-- [e for x in t if c], t a tuple -/
theorem lc_filtT {tt : TT} (ys : Nat → V) (c : Nat → Bool) (hD : H1 D = none) (src : SqT K H1 a xs) (hz : xs.length ≤ 1000000)
    (hs : ∀ (i : Nat) (x : V) (H : Hp) (acc : List V) (R : V → Hp → Prop) (R0 : Hp → Prop), xs[i]? = some x → Adv [] H1 H → H D = some (.lst acc) → (c i = true → ∀ H4, H4 D = some (.lst acc) → Adv [] H1 H4 → R (ys i) H4) →
      (c i = false → ∀ H4, H4 D = some (.lst acc) → Adv [] H1 H4 → R0 H4) → g x (wipe σ vs) H fun σ2 H2 => wipe σ2 vs = wipe σ vs ∧ tt σ2 H2 fun b H3 => if b = true then te σ2 H3 R else R0 H3)
    (hd : ∀ H, Adv [] H1 H → H D = some (.lst (((List.range xs.length).filter c).map ys)) → Qd H) :
    ∃ W : Nat → Nat → Hp → Prop, (∃ m, W 0 m (upd H1 D (.lst []))) ∧ ∀ i m H, W i m H →
      ((Itt K a).stop i H ∧ Qd H) ∨ ((Itt K a).go i H ∧ ∃ Nx : Hp → Prop, (∀ H', Nx H' → ∃ m', m' < m ∧ W (i + 1) m' H') ∧ ∀ x H', (Itt K a).yld i H x H' → g x (wipe σ vs) H' fun σ2 H2 => wipe σ2 vs = wipe σ vs ∧ tt σ2 H2 fun b H3 =>
        if b = true then te σ2 H3 fun y H4 => ∃ acc, H4 D = some (.lst acc) ∧ acc.length < sizeLine ∧ Nx (upd H4 D (.lst (acc ++ [y]))) else Nx H3) := by
  refine lc_tup (K := K) (a := a) (xs := xs) (tt := tt) (fun i H => Adv [] H1 H ∧ H D = some (.lst (((List.range i).filter c).map ys))) ⟨Adv.new hD, upd_same⟩ (fun i H _ p => SqT.adv p.1 src) (fun i x H hx p => ?_) (fun H p => hd H p.1 p.2)
  have hi : i < xs.length := (List.getElem?_eq_some_iff.mp hx).1
  refine hs i x H _ (fun y H4 => ∃ acc, H4 D = some (.lst acc) ∧ acc.length < sizeLine ∧ Adv [] H1 (upd H4 D (.lst (acc ++ [y]))) ∧ (upd H4 D (.lst (acc ++ [y]))) D = some (.lst (((List.range (i + 1)).filter c).map ys)))
    (fun H3 => Adv [] H1 H3 ∧ H3 D = some (.lst (((List.range (i + 1)).filter c).map ys))) hx p.1 p.2 (fun hc H4 e4 a4 => ⟨_, e4, ?_, Adv.mut a4 hD, ?_⟩) (fun hc H4 e4 a4 => ⟨a4, ?_⟩)
  · have h1 := List.length_filter_le c (List.range i)
    rw [List.length_range] at h1
    rw [List.length_map, sizeLine_eq]
    omega
  · rw [upd_same, range_filt_succ, if_pos hc]
  · rw [e4, range_filt_succ, if_neg (by rw [hc]; decide), List.append_nil]
end
theorem range_map_list {ds : List PyData} (f : PyData → Bool) : ((List.range ds.length).map fun i => V.bl (f (ds.getD i .none))) = (ds.map f).map V.bl := by
  apply List.ext_getElem
  · simp
  · intro i h1 h2
    have h : i < ds.length := by simpa using h1
    simp [h]
/-! ### dicts whose keys are tuples -/
theorem val_mem (kvs : List (List Key × V)) (k : List Key) : (valV kvs k).isSome = memK k (kvs.map (·.1)) := by
  unfold valV memK
  rw [Option.isSome_map, List.any_map]
  induction kvs with
  | nil => rfl
  | cons p r ih =>
    rw [List.find?_cons, List.any_cons]
    show (match decide (p.1 = k) with | true => some p | false => r.find? fun kv => decide (kv.1 = k)).isSome = (decide (p.1 = k) || r.any _)
    cases decide (p.1 = k) with
    | true => rfl
    | false => rw [Bool.false_or]; exact ih
theorem put_new (kvs : List (List Key × V)) (k : List Key) (v : V) (h : memK k (kvs.map (·.1)) = false) : putK kvs k v = kvs ++ [(k, v)] := by
  unfold putK
  have e : (kvs.any fun kv => decide (kv.1 = k)) = false := by
    unfold memK at h
    rw [List.any_map] at h
    exact h
  rw [if_neg (by rw [e]; decide)]
/-! ### for i, x in enumerate(list), the list left as it is -/
theorem for_enum {K : PySem.W.Frag} {a : Addr} {xs : List V} {g : TG} {tb : TS} {D : Ends} {σ : L2.St} {H : Hp} (Pv : Nat → L2.St → Hp → Prop) (h0 : Pv 0 σ H) (hl : ∀ i σ H, i ≤ xs.length → Pv i σ H → H a = some (.lst xs))
    (hs : ∀ (i : Nat) (x : V) (T : Addr) (σ : L2.St) (H : Hp), xs[i]? = some x → Pv i σ H → H T = none → g (.ref T) σ (upd H T (.tup [.int (i : Nat), x])) fun σ2 H2 => tb { D with nx := Pv (i + 1), ct := Pv (i + 1), bk := D.nx } σ2 H2) (hd : ∀ σ H, Pv xs.length σ H → D.nx σ H) :
    ∃ W : Nat → Nat → L2.St → Hp → Prop, (∃ m, W 0 m σ H) ∧ ∀ i m σ H, W i m σ H →
      ((Ite K a).stop i H ∧ D.nx σ H) ∨ ((Ite K a).go i H ∧ ∃ N : L2.St → Hp → Prop, (∀ σ' H', N σ' H' → ∃ m', m' < m ∧ W (i + 1) m' σ' H') ∧ ∀ x H', (Ite K a).yld i H x H' → g x σ H' fun σ2 H2 => tb { D with nx := N, ct := N, bk := D.nx } σ2 H2) := by
  refine ⟨fun i m σ H => i + m = xs.length ∧ Pv i σ H, ⟨xs.length, by omega, h0⟩, ?_⟩
  rintro i m σ H ⟨em, p⟩
  have q : SqL K H a xs := SqL.of (hl i σ H (by omega) p)
  by_cases hlt : i < xs.length
  · refine .inr ⟨⟨xs, xs[i], q, List.getElem?_eq_getElem hlt⟩, Pv (i + 1), fun σ' H' p' => ⟨m - 1, by omega, by omega, p'⟩, fun x H' y => ?_⟩
    obtain ⟨T, y0, rfl, nT, rfl, f⟩ := y
    exact hs i y0 T σ H (f xs q) p nT
  · have e : i = xs.length := by omega
    subst e
    exact .inl ⟨⟨xs, q, Nat.le_refl _⟩, hd σ H p⟩
theorem not_mem_new {M : List Addr} {H : Hp} {p : Addr} (h : ∀ b ∈ M, H b ≠ none) (n : H p = none) : p ∉ M := fun z => h p z n
theorem yes_if {σ : L2.St} {H : Hp} {f : Bool → Hp → Prop} (h : f true H) : tYes σ H f := h
/-! ### ways that are never gone -/
def eNo : TE := fun _ _ _ => False
def cNo : TT := fun _ _ _ => False
theorem pe_never {X : Cx} {e : Expr} : PE X e eNo := ⟨fun _ _ _ _ _ _ h => h.elim⟩
theorem pt_never {X : Cx} {e : Expr} : PT X e cNo := ⟨fun _ _ _ _ _ _ h => h.elim⟩
/-- a comprehension over an empty dict that is locked -/
theorem lc_keys0 {d D : Addr} {o : Obj} {g : TG} {tt : TT} {te : TE} {vs : List Nat} {σ : L2.St} {H1 : Hp} {Qd : Hp → Prop} (hd0 : H1 d = some (.frz o (.dK []))) (hD : H1 D = none) (hd : Qd (upd H1 D (.lst []))) :
    ∃ W : Nat → Nat → Hp → Prop, (∃ m, W 0 m (upd H1 D (.lst []))) ∧ ∀ i m H, W i m H →
      ((Itk d o []).stop i H ∧ Qd H) ∨ ((Itk d o []).go i H ∧ ∃ Nx : Hp → Prop, (∀ H', Nx H' → ∃ m', m' < m ∧ W (i + 1) m' H') ∧ ∀ x H', (Itk d o []).yld i H x H' → g x (wipe σ vs) H' fun σ2 H2 => wipe σ2 vs = wipe σ vs ∧ tt σ2 H2 fun b H3 =>
        if b = true then te σ2 H3 fun y H4 => ∃ acc, H4 D = some (.lst acc) ∧ acc.length < sizeLine ∧ Nx (upd H4 D (.lst (acc ++ [y]))) else Nx H3) := by
  refine ⟨fun i m H => H = upd H1 D (.lst []), ⟨0, rfl⟩, ?_⟩
  rintro i m H rfl
  exact .inl ⟨⟨by rw [upd_ne (ne_of_none hd0 hD)]; exact hd0, Nat.zero_le _⟩, hd⟩
/-- a loop over an empty dict that is locked -/
theorem for_keys0 {d : Addr} {o : Obj} {g : TG} {tb : TS} {D : Ends} {σ : L2.St} {H1 : Hp} (hd0 : H1 d = some (.frz o (.dK []))) (hd : D.nx σ H1) :
    ∃ W : Nat → Nat → L2.St → Hp → Prop, (∃ m, W 0 m σ H1) ∧ ∀ i m σ H, W i m σ H →
      ((Itk d o []).stop i H ∧ D.nx σ H) ∨ ((Itk d o []).go i H ∧ ∃ N : L2.St → Hp → Prop, (∀ σ' H', N σ' H' → ∃ m', m' < m ∧ W (i + 1) m' σ' H') ∧ ∀ x H', (Itk d o []).yld i H x H' → g x σ H' fun σ2 H2 => tb { D with nx := N, ct := N, bk := D.nx } σ2 H2) := by
  refine ⟨fun i m σ' H => σ' = σ ∧ H = H1, ⟨0, rfl, rfl⟩, ?_⟩
  rintro i m σ' H ⟨rfl, rfl⟩
  exact .inl ⟨⟨hd0, Nat.zero_le _⟩, hd⟩
theorem IsDs.last {M : List Addr} {H : Hp} : ∀ {ds : List PyData} {d : PyData} {vs : List V}, IsDs M H (ds ++ [d]) vs → ∃ ws v, vs = ws ++ [v] ∧ IsDs M H ds ws ∧ Is M H d v
  | [], d, vs, x => by
    have x' : IsDs M H [d] vs := x
    unfold IsDs at x'
    obtain ⟨v, r, rfl, h1, h2⟩ := x'
    unfold IsDs at h2
    subst h2
    exact ⟨[], v, rfl, .nil, h1⟩
  | c :: ds, d, vs, x => by
    have x' : IsDs M H (c :: (ds ++ [d])) vs := x
    unfold IsDs at x'
    obtain ⟨v, r, rfl, h1, h2⟩ := x'
    obtain ⟨ws, u, rfl, h3, h4⟩ := h2.last
    exact ⟨v :: ws, u, rfl, .cons h1 h3, h4⟩
theorem Is.pair {M : List Addr} {H : Hp} {d e : PyData} {v : V} (x : Is M H (.tuple [d, e]) v) : ∃ t v1 v2, v = .ref t ∧ Tp M H t [v1, v2] ∧ Is M H d v1 ∧ Is M H e v2 := by
  obtain ⟨t, vs, rfl, ht, hs⟩ := x.tupE
  unfold IsDs at hs
  obtain ⟨v1, r, rfl, h1, h2⟩ := hs
  unfold IsDs at h2
  obtain ⟨v2, r2, rfl, h3, h4⟩ := h2
  unfold IsDs at h4
  subst h4
  exact ⟨t, v1, v2, rfl, ht, h1, h3⟩
theorem IsDs.of_get {M : List Addr} {H : Hp} : ∀ {ds : List PyData} {vs : List V}, vs.length = ds.length → (∀ (i : Nat) d v, ds[i]? = some d → vs[i]? = some v → Is M H d v) → IsDs M H ds vs
  | [], vs, hl, h => by
    have : vs = [] := List.length_eq_zero_iff.mp hl
    subst this
    exact .nil
  | d :: ds, [], hl, h => by simp at hl
  | d :: ds, v :: vs, hl, h => .cons (h 0 d v rfl rfl) (IsDs.of_get (by simpa using hl) fun i d' v' h1 h2 => h (i + 1) d' v' (by simpa using h1) (by simpa using h2))
end LL

set_option Elab.async false
set_option linter.all false
set_option maxRecDepth 100000
set_option maxHeartbeats 4000000
/-! LBook: a book of rows (a list, and the dict of its nodes), a stream beside it; written data -/
namespace LL
open PySem PySem.Spec PyProof.Rows L2
variable [KW]
def keyDt : Key → PyData
  | .inl i => .int i
  | .inr x => .str x
theorem ks_data {M : List Addr} {H : Hp} : ∀ ks : List Key, IsDs M H (ks.map keyDt) (ks.map kV)
  | [] => .nil
  | .inl i :: ks => .cons .int (ks_data ks)
  | .inr x :: ks => .cons .str (ks_data ks)
theorem nd_data {M : List Addr} {H : Hp} {a : Addr} {ks : List Key} (h : H a = some (.tup (ks.map kV))) (hn : a ∉ M) : Is M H (.tuple (ks.map keyDt)) (.ref a) := Is.tup h hn (ks_data ks)
theorem sz_key (k : Key) : sz (keyDt k) = 1 := by cases k <;> (unfold keyDt sz; rfl)
theorem dep_key (k : Key) : dep (keyDt k) = 0 := by cases k <;> (unfold keyDt dep; rfl)
theorem sz_tup (ds : List PyData) : sz (.tuple ds) = 1 + szL ds := by rw [sz]
theorem dep_tup (ds : List PyData) : dep (.tuple ds) = 1 + depL ds := by rw [dep]
theorem sz_lst (ds : List PyData) : sz (.list ds) = 1 + szL ds := by rw [sz]
theorem dep_lst (ds : List PyData) : dep (.list ds) = 1 + depL ds := by rw [dep]
theorem depL_cons (d : PyData) (ds : List PyData) : depL (d :: ds) = max (dep d) (depL ds) := by rw [depL]
theorem depL_nil : depL [] = 0 := by rw [depL]
theorem ks_sz : ∀ ks : List Key, szL (ks.map keyDt) = ks.length
  | [] => szL_nil
  | k :: ks => by rw [List.map_cons, szL_cons, ks_sz ks, List.length_cons, sz_key]; omega
theorem ks_dep : ∀ ks : List Key, depL (ks.map keyDt) = 0
  | [] => depL_nil
  | k :: ks => by rw [List.map_cons, depL_cons, ks_dep ks, dep_key]; rfl
/-- a datum as small as a node -/
def Small (d : PyData) : Prop := sz d ≤ 4 ∧ dep d ≤ 1 ∧ ∃ ks : List Key, d = .tuple (ks.map keyDt)
theorem nd_small {ks : List Key} (h : ks.length ≤ 3) : Small (.tuple (ks.map keyDt)) := by
  refine ⟨?_, ?_, ks, rfl⟩
  · rw [sz_tup, ks_sz]; omega
  · rw [dep_tup, ks_dep]; exact Nat.le_refl _
structure BookAt (M : List Addr) (H : Hp) (b0 b1 : Addr) (n : Nat) : Prop where
  rows : ∃ (rs : List V) (ds : List PyData) (kvs : List (List Key × V)), H b0 = some (.lst rs) ∧ rs.length = n ∧ IsDs M H ds rs ∧ (∀ d ∈ ds, Small d) ∧ H b1 = some (.dT kvs) ∧ kvs.length ≤ n ∧ ∀ p ∈ kvs, ∃ i : Nat, p.2 = .int i ∧ i < n
structure Bk (M : List Addr) (H : Hp) (s bk b0 b1 : Addr) (n : Nat) : Prop where
  str : StrAt M H s
  hbk : H bk = some (.lst [.ref b0, .ref b1])
  ms : s ∈ M
  m0 : b0 ∈ M
  m1 : b1 ∈ M
  kM : bk ∉ M
  ns0 : s ≠ b0
  ns1 : s ≠ b1
  n01 : b0 ≠ b1
  al : ∀ b ∈ M, H b ≠ none
  book : BookAt M H b0 b1 n
section
variable {M N : List Addr} {H H' : Hp} {s bk b0 b1 p : Addr} {n : Nat}
theorem alloc_adv (h : ∀ b ∈ M, H b ≠ none) (a : Adv N H H') (hN : ∀ b ∈ N, H' b ≠ none) : ∀ b ∈ M, H' b ≠ none := fun b hb => by
  by_cases e : b ∈ N
  · exact hN b e
  · cases q : H b with
    | none => exact absurd q (h b hb)
    | some o => rw [a b o e q]; simp
theorem Bk.adv (x : Bk M H s bk b0 b1 n) (a : Adv N H H') (h0 : b0 ∉ N) (h1 : b1 ∉ N) (hn : ∀ b ∈ N, b ∈ M) (hs : StrAt M H' s) (hal : ∀ b ∈ N, H' b ≠ none) : Bk M H' s bk b0 b1 n := by
  obtain ⟨x1, x2, x3, x4, x5, x6, x7, x8, x9, xa, rs, ds, kvs, r1, r2, r3, r4, r5, r6, r7⟩ := x
  exact ⟨hs, a _ _ (fun z => x6 (hn _ z)) x2, x3, x4, x5, x6, x7, x8, x9, alloc_adv xa a hal, ⟨rs, ds, kvs, a _ _ h0 r1, r2, r3.adv (a.more hn), r4, a _ _ h1 r5, r6, r7⟩⟩
theorem Bk.same (x : Bk M H s bk b0 b1 n) (a : Adv [] H H') : Bk M H' s bk b0 b1 n := x.adv a (by simp) (by simp) (by simp) (x.str.same a) (by simp)
theorem Bk.next (x : Bk M H s bk b0 b1 n) (a : Adv [s] H H') (hs : StrAt M H' s) : Bk M H' s bk b0 b1 n := x.adv a (by simpa using x.ns0.symm) (by simpa using x.ns1.symm) (by simpa using x.ms) hs (by simpa using hs.here)
theorem Bk.fresh (x : Bk M H s bk b0 b1 n) (h : H p = none) {o : HO} : Bk (p :: M) (upd H p o) s bk b0 b1 n := by
  have y := x.same (Adv.new (o := o) h)
  obtain ⟨_, _, _, _, _, _, _, _, _, _, rs, ds, kvs, r1, r2, r3, r4, r5, r6, r7⟩ := id x
  obtain ⟨x1, x2, x3, x4, x5, x6, x7, x8, x9, xa, _⟩ := y
  obtain ⟨z1, z2, z3, z4, z5, z6, z7, z8, z9, za, _⟩ := id x
  have a : Adv [] H (upd H p o) := Adv.new h
  exact ⟨(z1.fresh h).same a, x2, by simp [x3], by simp [x4], by simp [x5], fun z => (List.mem_cons.mp z).elim (ne_of_none z2 h) x6, x7, x8, x9,
    fun b hb => by
      rcases List.mem_cons.mp hb with e | hb
      · rw [e, upd_same]; simp
      · exact xa b hb, ⟨rs, ds, kvs, a.same _ _ r1, r2, (r3.fresh h).adv (a.more (by simp)), r4, a.same _ _ r5, r6, r7⟩⟩
theorem Bk.less (x : Bk (p :: M) H s bk b0 b1 n) (h1 : s ∈ M) (h2 : b0 ∈ M) (h3 : b1 ∈ M) : Bk M H s bk b0 b1 n := by
  obtain ⟨x1, x2, x3, x4, x5, x6, x7, x8, x9, xa, rs, ds, kvs, r1, r2, r3, r4, r5, r6, r7⟩ := x
  have m : ∀ b ∈ M, b ∈ p :: M := fun b hb => List.mem_cons_of_mem _ hb
  exact ⟨x1.less m, x2, h1, h2, h3, fun z => x6 (m _ z), x7, x8, x9, fun b hb => xa b (m b hb), ⟨rs, ds, kvs, r1, r2, r3.less m, r4, r5, r6, r7⟩⟩
theorem Bk.cong {m : Nat} (x : Bk M H s bk b0 b1 n) (e : n = m) : Bk M H s bk b0 b1 m := e ▸ x
end
theorem Bk.alloc {M : List Addr} {H : Hp} {s bk b0 b1 p : Addr} {n : Nat} (x : Bk M H s bk b0 b1 n) (h : H p = none) : p ≠ s ∧ p ≠ bk ∧ p ≠ b0 ∧ p ≠ b1 := by
  obtain ⟨x1, x2, x3, x4, x5, x6, x7, x8, x9, xa, rs, ds, kvs, r1, r2, r3, r4, r5, r6, r7⟩ := x
  refine ⟨fun z => x1.here (by rw [← z]; exact h), fun z => ?_, fun z => ?_, fun z => ?_⟩
  · rw [← z, h] at x2; cases x2
  · rw [← z, h] at r1; cases r1
  · rw [← z, h] at r5; cases r5
theorem Bk.put {M : List Addr} {H : Hp} {s bk b0 b1 D : Addr} {n : Nat} {o : HO} (x : Bk (D :: M) H s bk b0 b1 n) (h1 : D ≠ s) (h2 : D ≠ b0) (h3 : D ≠ b1) : Bk (D :: M) (upd H D o) s bk b0 b1 n :=
  x.adv (N := [D]) (Adv.set (by simp)) (by simpa using h2.symm) (by simpa using h3.symm) (by simp) (x.str.adv (N := [D]) (Adv.set (by simp)) (by simpa using h1.symm) (by simp)) (fun b hb => by rw [List.mem_singleton.mp hb, upd_same]; simp)
theorem Adv.one {s b0 b1 : Addr} {H H' : Hp} (a : Adv [s] H H') : Adv [s, b0, b1] H H' := a.more (by simp)
theorem Adv.two {s b0 b1 : Addr} {H H' : Hp} (a : Adv [b0, b1] H H') : Adv [s, b0, b1] H H' := a.more (by simp)
theorem Adv.nil {N : List Addr} {H H' : Hp} (a : Adv [] H H') : Adv N H H' := a.more (by simp)
theorem kV_str (x : Str) : kV (.inr x) = .str x := rfl
theorem kV_int (x : Int) : kV (.inl x) = .int x := rfl
/-! ### written data: what a display gives -/
def DE (te : TE) (σ : L2.St) (d : PyData) : Prop := ∀ (M : List Addr) (H : Hp) (Q : VK), (∀ b ∈ M, H b ≠ none) → (∀ v H', Is M H' d v → Adv [] H H' → Q v H') → te σ H Q
def DA (ta : TA) (σ : L2.St) (ds : List PyData) : Prop := ∀ (M : List Addr) (H : Hp) (Q : List V → Hp → Prop), (∀ b ∈ M, H b ≠ none) → (∀ vs H', IsDs M H' ds vs → Adv [] H H' → Q vs H') → ta σ H Q
theorem Adv.alloc {M : List Addr} {H H' : Hp} (a : Adv [] H H') (h : ∀ b ∈ M, H b ≠ none) : ∀ b ∈ M, H' b ≠ none := fun b hb => by
  cases e : H b with
  | none => exact absurd e (h b hb)
  | some o => rw [a.same _ _ e]; simp
section
variable {σ : L2.St} {te : TE} {ta : TA} {d : PyData} {ds : List PyData}
theorem de_int {i : Int} : DE (tC (.int i)) σ (.int i) := fun M H Q _ k => k _ _ .int (Adv.refl _ _)
theorem de_str {x : Str} : DE (tC (.str x)) σ (.str x) := fun M H Q _ k => k _ _ .str (Adv.refl _ _)
theorem de_bl {b : Bool} : DE (tC (.bl b)) σ (.bool b) := fun M H Q _ k => k _ _ .bl (Adv.refl _ _)
theorem de_non : DE (tC .non) σ .none := fun M H Q _ k => k _ _ .non (Adv.refl _ _)
theorem de_neg {i : Int} : DE (tUn (rU fun i => .int (-i)) (tC (.int i))) σ (.int (-i)) := fun M H Q _ k => ⟨i, rfl, k _ _ .int (Adv.refl _ _)⟩
theorem de_var {j : Nat} {i : Int} (h : σ[j]? = some (some (.int i))) : DE (tVar j) σ (.int i) := fun M H Q _ k => ⟨_, h, k _ _ .int (Adv.refl _ _)⟩
theorem de_varop {j : Nat} {i c : Int} {f : Int → Int → Int} (h : σ[j]? = some (some (.int i))) : DE (tOp (rI0 fun i j => .int (f i j)) (tVar j) (tC (.int c))) σ (.int (f i c)) := fun M H Q _ k => ⟨_, h, i, c, rfl, rfl, k _ _ .int (Adv.refl _ _)⟩
theorem de_pow {i c : Int} (h : CPow i c) : DE (tOp (rI CPow fun i j => .int (i ^ j.toNat)) (tC (.int i)) (tC (.int c))) σ (.int (i ^ c.toNat)) := fun M H Q _ k => ⟨i, c, rfl, rfl, h, k _ _ .int (Adv.refl _ _)⟩
theorem de_tup (h : DA ta σ ds) (hl : ds.length ≤ 1000) : DE (tTup ta) σ (.tuple ds) := fun M H Q hM k => h M H _ hM fun vs H' x a =>
  ⟨by rw [x.len, sizeLine_eq]; omega, fun p np => k _ _ (Is.tup upd_same (not_mem_new (a.alloc hM) np) (x.adv (Adv.nil (Adv.new np)))) (a.newT np)⟩
theorem de_lst (h : DA ta σ ds) (hl : ds.length ≤ 1000) : DE (tLst ta) σ (.list ds) := fun M H Q hM k => h M H _ hM fun vs H' x a =>
  ⟨by rw [x.len, sizeLine_eq]; omega, fun p np => k _ _ (Is.lst upd_same (not_mem_new (a.alloc hM) np) (x.adv (Adv.nil (Adv.new np)))) (a.newT np)⟩
theorem de_dic : DE tDNewK σ (.dict []) := fun M H Q hM k => fun p np => k _ _ (Is.dic upd_same (not_mem_new hM np)) (Adv.new np)
theorem da_nil : DA tNil σ [] := fun M H Q _ k => k _ _ .nil (Adv.refl _ _)
theorem da_cons (h1 : DE te σ d) (h2 : DA ta σ ds) : DA (tCons te ta) σ (d :: ds) := fun M H Q hM k => h1 M H _ hM fun v H1 x1 a1 => h2 M H1 _ (a1.alloc hM) fun vs H2 x2 a2 => k _ _ (.cons (x1.adv (Adv.nil a2)) x2) (a1.trans a2)
end
end LL

set_option Elab.async false
set_option linter.all false
set_option maxRecDepth 100000
set_option maxHeartbeats 4000000
namespace LL
open PySem PySem.Spec PyProof.Rows L2
variable [KW]
theorem IsDs.append_self {M : List Addr} {H : Hp} {ds : List PyData} {vs : List V} (h : IsDs M H ds vs) : ∀ n : Nat, IsDs M H (List.replicate n ds).flatten (List.replicate n vs).flatten
  | 0 => .nil
  | n + 1 => by
    rw [List.replicate_succ, List.replicate_succ, List.flatten_cons, List.flatten_cons]
    exact h.app (h.append_self n)
theorem de_rep {K : PySem.W.Frag} {σ : L2.St} {ta : TA} {ds : List PyData} {k : Int} (h : DA ta σ ds) (hl : ds ≠ [] ∧ ds.length ≤ 100) (hk : 2 ≤ k ∧ k ≤ 1000) : DE (tOp (rRepT K) (tTup ta) (tC (.int k))) σ (.tuple (List.replicate k.toNat ds).flatten) := fun M H Q hM kk => h M H _ hM fun vs H' x a =>
  ⟨by rw [x.len, sizeLine_eq]; omega, fun p np => ⟨p, k, vs, rfl, rfl, SqT.of upd_same, fun z => hl.1 (by have := x.len; rw [z] at this; exact List.length_eq_zero_iff.mp this.symm), hk.1, hk.2, by rw [x.len]; omega, fun q nq => by
    have a2 : Adv [] H (upd H' p (.tup vs)) := a.newT np
    exact kk _ _ (Is.tup upd_same (not_mem_new (a2.alloc hM) nq) ((x.append_self k.toNat).adv (Adv.nil ((Adv.new np).trans (Adv.new nq))))) (a2.newT nq)⟩⟩
theorem sz1_int (i : Int) : sz (.int i) = 1 := by unfold sz; rfl
theorem sz1_str (i : Str) : sz (.str i) = 1 := by unfold sz; rfl
theorem sz1_bool (i : Bool) : sz (.bool i) = 1 := by unfold sz; rfl
theorem sz1_none : sz .none = 1 := by unfold sz; rfl
theorem sz1_dict (l : List (PyData × PyData)) : sz (.dict l) = 1 := by unfold sz; rfl
theorem dep1_int (i : Int) : dep (.int i) = 0 := by unfold dep; rfl
theorem dep1_str (i : Str) : dep (.str i) = 0 := by unfold dep; rfl
theorem dep1_bool (i : Bool) : dep (.bool i) = 0 := by unfold dep; rfl
theorem dep1_none : dep .none = 0 := by unfold dep; rfl
theorem dep1_dict (l : List (PyData × PyData)) : dep (.dict l) = 0 := by unfold dep; rfl
end LL

set_option Elab.async false
set_option linter.all false
set_option maxRecDepth 100000
set_option maxHeartbeats 2000000
/-! LExc: raising with the context kept, clauses with a name, what is asked of a held error -/
namespace LL
open PySem PySem.Spec PyProof.Rows L2
/-! ### defs -/
section
variable {P : Program} {w : World} {K : PySem.W.Frag} {mg : Str → Option Value} {base : Heap}
theorem okXN {x qual : Str} {st : Stmt} {f : Addr} {fd : FuncData} {N ps : List Str} {k : Nat} {sp : Sp} (F : Fun K x qual st f fd) (S : FnScope N ps (defScope st))
    (len : ∀ vs H Q E, sp vs H Q E → vs.length = ps.length)
    (hb : ∀ (cdv : Value) (A : Around) (outer : List Env) (s : Shared) (H : Hp) (vs : List V) (Q : VK) (E : XK), Room k (A.deeper (envOfC qual (defScope st) s.heap.objs.size f cdv)) → sp vs H Q E →
      ∃ t, PSs (cxOf (L2N.CX P w) P w K mg base N qual (defScope st) f cdv A outer s H E) (defBody st) t ∧ t { nx := fun _ H' => Q .non H', rt := Q } (L2.start N vs) H) :
    FnOk P w K mg base (L2N.CX P w) (k + 1) f fd ps sp := by
  obtain ⟨o1, o2, kV, doc, pm, an, cdv, ct, osl, e, lk, hcd⟩ := F.ex
  subst e
  exact fn_of lk hcd S len fun A outer s H vs Q E hr hs => hb cdv A outer s H vs Q E hr hs
theorem okH {x qual : Str} {st : Stmt} {f : Addr} {fd : FuncData} {N ps : List Str} {k : Nat} {sp : Sp} (F : Fun K x qual st f fd) (S : FnScope N ps (defScope st))
    (len : ∀ vs H Q E, sp vs H Q E → vs.length = ps.length)
    (hb : ∀ (cdv : Value) (A : Around) (outer : List Env) (s : Shared) (H : Hp) (vs : List V) (Q : VK) (E : XK) (p : Addr × Obj), L2H.Hot1 A p → L2H.RoomH k (A.deeper (envOfC qual (defScope st) s.heap.objs.size f cdv)) → sp vs H Q E →
      ∃ t, PSs (L2H.cxH CX0 P w K mg base N qual (defScope st) f cdv A outer s H E p) (defBody st) t ∧ t { nx := fun _ H' => Q .non H', rt := Q } (L2.start N vs) H) :
    L2H.FnH P w K mg base CX0 (k + 1) f fd ps sp := by
  obtain ⟨o1, o2, kV, doc, pm, an, cdv, ct, osl, e, lk, hcd⟩ := F.ex
  subst e
  exact L2H.fn_ofH lk hcd S len fun A outer s H vs Q E p h1 h2 h3 => hb cdv A outer s H vs Q E p h1 h2 h3
end
/-! ### making an error -/
section
variable {X : Cx} {x : Str} {e : Expr} {es : List Expr} {ta : TA} {p pos : Pos}
theorem pmk_noargN {C : Addr} {bmB : List Value} {B newId initId : String} (F : ExcBaseFacts B newId initId bmB) (q : PySem.W.excIn X.K C bmB newId = true) (gC : X.mg x = some (.ref C)) (kC : PySem.W.keepIn X.K (.ref C) = true) (r : Raises X (.ref C)) (hg : Gl X x)
    (hdb : (x == ("__debug__" : Str)) = false := by decide) : L2N.PMk X (.Call (.Name x p) [] [] pos) (fun _ H Q => Q (.ref C) none H) := by
  intro pins s σ H Q I h
  refine wpAny_Call_Name_kw (ld_glob I hg gC ?_ hdb)
  refine PySem.W.callWith_K0 I.kIn kC ?_
  obtain ⟨bm, N, nm, qn, bs, hdct, sn, sub, ab, col, dd, k0, k1, k2, k3, k5, mN, hC, hN, hni, T⟩ := exc_obj I.kIn q
  exact wpAny_call_exc_subT F T hC hN hni (fun h' e hm => L2N.mk_of I hm r h (I.hok.gone hm.new)) (Nat.zero_le _)
theorem pmk_initN {CX : CXT} {C fI : Addr} {k : Nat} {fd : FuncData} {ps : List Str} {sp : Sp} {ds : List Value} {dvs : List V} (T : OexC X.K C) (iC : PySem.W.findIn X.K (.ref C) "__init__" = some (some (.ref fI)))
    (tI : PySem.W.typeIn X.K (.ref fI) = some (.type "function")) (F1 : FnOk X.prog X.w X.K X.mg X.base CX k fI fd ps sp) (hr : Room (k + 1) X.A) (hb : Binds X.K fd ps ds) (hd : Vals dvs ds) (hx : Passes CX X (fun _ _ _ => False)) (hg : Gl X x) (hm : X.mg x = some (.ref C))
    (ha : PA X (e :: es) ta) (hdb : (x == ("__debug__" : Str)) = false := by decide) (he : starEach (e :: es) X.env = (false, eval e X.env) :: starEach es X.env := by rfl) (hpl : (backTo pos (starEach es X.env)).any (·.1) = false := by rfl) :
    L2N.PMk X (.Call (.Name x p) (e :: es) [] pos) (tMkO C sp dvs ta) := by
  intro pins s σ H Q I h
  obtain ⟨nm, q, N, bs, bm, sn, sub, ab, col, dd, k0, k1, k2, k3, k5, hC, hbm⟩ := T.cls
  refine wpAny_Call_Name_kw (ld_glob I hg hm ?_ hdb)
  refine PySem.W.callWith_K (h₀ := X.base) I.ok.mod.kin T.kC (thn (ha.run pos pins s σ H _ I h) fun us s1 ⟨vs, H1, I1, r1, hz, q1⟩ => ⟨I1.kIn, ?_⟩) he hpl
  show wpAny _ _ (call (.ref C) us) _ _ _
  obtain ⟨hp, g, dr, tk, os⟩ := s1
  have ln : hp.objs.size ≤ hp.objs.size + 1 := Nat.le_succ _
  have fr : H1 (hp.objs.size + 1) = none := I1.hok.fresh ln
  have spq := q1 (hp.objs.size + 1) fr
  have old : ∀ b o, hp.get? b = some o → ((hp.push (PySem.W.kdv_tup us)).push (PySem.HandSPX.excO C hp.objs.size)).get? b = some o := fun b o e => Heap.get?_push_of_some _ (Heap.get?_push_of_some _ e)
  have its : ((hp.push (PySem.W.kdv_tup us)).push (PySem.HandSPX.excO C hp.objs.size)).get? (hp.objs.size + 1) = some (PySem.HandSPX.excO C hp.objs.size) := by heap_get
  have I2 : Inv X pins σ (upd H1 (hp.objs.size + 1) (exo (hp.objs.size + 1) C none)) ⟨(hp.push (PySem.W.kdv_tup us)).push (PySem.HandSPX.excO C hp.objs.size), g, dr, tk, os⟩ :=
    I1.laid (t' := tk) (a := hp.objs.size + 1) (o := exo (hp.objs.size + 1) C none) (h' := (hp.push (PySem.W.kdv_tup us)).push (PySem.HandSPX.excO C hp.objs.size)) old ln (exo_ok its)
  have vr : Vals (V.ref (hp.objs.size + 1) :: (vs ++ dvs)) (Value.ref (hp.objs.size + 1) :: (us ++ ds)) := .cons rfl (r1.append hd)
  have hl : (Value.ref (hp.objs.size + 1) :: us ++ ds).length = ps.length := by
    have e := vr.length
    rw [F1.len _ _ _ _ spq] at e
    exact e.symm
  have su : us.length ≤ sizeLine := by
    have := Paired.length r1
    rw [sizeLine_eq]; omega
  refine wpAny_call (PySem.HandSPX.call_own F.excBase_ValueError (fun Y => PySem.HandSPX.refsVE_contains Y bm hbm) (I1.kIn _ _ hC) (PySem.W.looks_findIn I1.kIn iC) (fun self => PySem.W.bind_fn I1.kIn self tI) su
    (codeAny_mono (F1.run _ X.stack _ _ ⟨Value.ref (hp.objs.size + 1) :: us, []⟩ (Value.ref (hp.objs.size + 1) :: (us ++ ds)) _ _ (fun _ _ _ => False) (hr.make C us []) (I2.env0.make C us []) (hb _ (Value.ref (hp.objs.size + 1) :: us) I2.kIn hl) vr spq) fun r s' hq => ?_))
  cases r with
  | error er => exact hx pins σ _ _ er s' I2 hq
  | ok fl =>
    cases fl with
    | next => exact False.elim hq
    | brk => exact False.elim hq
    | cont => exact False.elim hq
    | ret u =>
      obtain ⟨v, H2, o2, b2, u2, k2', rv, ev, d, fs, ea, ed, hd1, q2⟩ := hq
      subst ev
      obtain ⟨h2, g2, d2, t2, os'⟩ := s'
      obtain ⟨t0, G, J, kG, ge, hoe, na⟩ := mk_end0 (d2 := d2) (t2 := t2) I1 ln old u2 k2' o2 b2 ea ed hd1
      exact ⟨rv, hp.objs.size + 1, _, _, ⟨G, g2, d2, t2, os'⟩, _, .ref C, some d, rfl, J, kG, ge, hoe, ⟨rfl, rfl, fun vs e => by cases e; rfl⟩, rfl, rfl, na, rfl, b2, raises_own T.exC T.tyC, q2⟩
end
/-! ### list.count, flat items -/
def rCntF (K : PySem.W.Frag) : V → List V → Hp → VK → Prop := fun x xs H Q => ∃ (a : Addr) (ys : List V) (y : V), x = V.ref a ∧ xs = [y] ∧ SqL K H a ys ∧ flatV y = true ∧ ys.all flatV = true ∧ Q (.int ((ys.countP fun z => eqV z y) : Nat)) H
theorem count_eqU {y : V} : ∀ {ys : List V} {its : List Value}, Vals ys its → ys.all flatV = true → its.countP (eqU y) = ys.countP fun z => eqV z y
  | [], _, .nil, _ => rfl
  | z :: ys, u :: its, .cons r rs, h => by
    rw [List.all_cons, Bool.and_eq_true] at h
    rw [List.countP_cons, List.countP_cons, count_eqU rs h.2, eqU_of r h.1]
theorem mt_countF {X : Cx} : MtR X "list.count" (rCntF X.K) := by
  intro pins s σ H x xs v us Q I rx rxs h
  obtain ⟨a, ys, y, rfl, rfl, hs, fy, fys, q⟩ := h
  cases rx
  obtain ⟨u, rfl, ru⟩ := rxs.one
  obtain ⟨its, rv, ⟨⟨cls, dd, data, sl⟩, n, ho, hc, hdn, hd⟩, hlen⟩ := I.list hs
  simp only at hc hd
  subst hc hd
  refine call_meets PySem.F.slot_list_count ⟨_, ho, rfl⟩ PySem.F.entry_list_count (PySem.F.args_list_count_2 _ _)
    (SeqAt.list_countAt a its.toArray n dd sl u (eqU y)) ⟨ho, fun z hz => mem_eqAt ru fy rv fys z (by simpa using hz), ?_⟩
  refine ⟨.int ((ys.countP fun z => eqV z y) : Nat), H, I.tok _, ⟨s.toks, ?_⟩, q⟩
  rw [← count_eqU rv fys]
end LL

set_option Elab.async false
set_option linter.all false
set_option maxRecDepth 100000
set_option maxHeartbeats 2000000
/-! LExd: isinstance of a held error whatever its dict; try with clauses that name the error -/
namespace LL
open PySem PySem.Spec PyProof.Rows L2
section
open PySem.W PySem.Calls
variable {prog : Program} {w : World} {A : Around} {E : Value → Shared → Prop} {s : Shared} {K : Frag} {x D : Addr} {ox : Obj} {od : Option Obj}
theorem held_class {Q : Option Value → Shared → Prop} (C : ExcC K D) (X : K.In s.heap) (I : InstAt s.heap x ox D od) (h : Q (some (.ref D)) { s with toks := s.toks + 1 }) :
    wpAny (model prog w) A (getAttr? (.ref x) "__class__") Q E s := by
  have hf : findObj K D od "__class__" = some (.bind (.builtin "getset_descriptor.__get__") (.builtin "object.__class__")) := by
    obtain ⟨cd, hc, _⟩ := any_some C.hd
    unfold findObj
    rw [hc, Option.bind_some, C.ha, Option.bind_some]
    simp [C.hn, C.ht]
  obtain ⟨hp, g, d, t, os⟩ := s
  have L0 := I.type (M := model prog w)
  have L1 := looks_findIn (M := model prog w) X C.hg
  have L2' := looks_findIn (M := model prog w) X C.hk
  have L3 := looks_find (M := model prog w) X I hf
  have sub : Looks (model prog w) hp (isInstance (.ref x) (.type "BaseException")) true := L0.andThen (looks_subIn X C.hs)
  have y0 : (false && onTheHeap (Value.builtin "BaseException.__getattribute__")) = false := rfl
  have y2 : (Value.builtin "BaseException.__getattribute__" == Value.builtin "object.__getattribute__") = false := by decide +kernel
  have y1 : (onTheHeap (Value.ref D) && Value.builtin "BaseException.__getattribute__" == Value.builtin "object.__getattribute__") = false := by rw [y2]; rfl
  unfold getAttr? getAttrBy? getAttrBy
  refine wpAny_bind (wpAny_mkText (wpAny_bind (wpAny_attempt (wpAny_holding (wpAny_bind (L0.at (wpAny_bind (L1.at ?_))))))))
  show wpAny _ _ (if (onTheHeap (Value.ref D) && Value.builtin "BaseException.__getattribute__" == Value.builtin "object.__getattribute__") = true then _ else _) _ _ _
  rw [y1, if_neg Bool.false_ne_true]
  unfold getAttrByItsOwn hookBefore
  refine wpAny_bind ?_
  rw [if_pos (show onTheHeap (Value.ref D) = true from rfl)]
  refine L2'.at (wpAny_bind (wpAny_attempt (wpAny_holding ?_)))
  unfold callGetattribute
  rw [y0, if_neg Bool.false_ne_true]
  unfold boundAndCalled
  rw [PySem.F.excAttr_ValueError.ga.bind (.ref x)]
  refine wpAny_bind (wpAny_pure ?_)
  show wpAny _ _ (call (.builtin "BaseException.__getattribute__") [.ref x, .str "__class__" t]) _ _ _
  refine wpAny_call (codeAny_call_builtin PySem.F.excAttr_ValueError.ga.plain PySem.F.entry_bexc_ga ?_)
  refine @check_slot (model prog w) _ _ ⟨hp, g, d, t + 1, os⟩ "BaseException.__getattribute__" "BaseException" "__getattribute__" (.ref x) [.str "__class__" t] [] _ (by decide +kernel) (by decide +kernel) sub (PySem.F.args_bexc_ga (.ref x) (.str "__class__" t)) ?_
  unfold Builtin.«object.__getattribute__»
  refine wpAny_bind (wpAny_of_eq (a := ((Value.ref x : Value), [Value.str "__class__" t])) (by first | rfl | (simp only [slotArgs]; rfl)) ?_)
  refine wpAny_bind (wpAny_pure (wpAny_bind (L0.at (wpAny_bind (L3.at ?_)))))
  show wpAny _ _ (holding [Value.builtin "object.__class__"] (call (.builtin "getset_descriptor.__get__") [.builtin "object.__class__", .ref x, .ref D]) >>= ret) _ _ _
  refine wpAny_bind (wpAny_holding (wpAny_call (class_get (s := ⟨hp, g, d, t + 1, os⟩) (ox := ox) (od := od) X I C.hm ?_)))
  refine wpAny_pure ?_
  show wpAny _ _ (handedOut (.ref D)) _ _ _
  rw [handedOut_of (v := .ref D) rfl]
  first
    | exact wpAny_pure (wpAny_pure h)
    | exact wpAny_pure h
    | exact wpAny_pure (wpAny_bind (wpAny_pure (wpAny_pure h)))
theorem held_kit (C : ExcC K D) : KitX K (.ref x) (.ref D) (fun h => InstAt h x ox D od) := by
  refine ⟨fun _ _ _ I => I.type, fun _ _ X _ => ?_, fun h tp dd its n sl X htp => ?_, fun X I k => held_class C X I k⟩
  · obtain ⟨cdD, hcD, _⟩ := any_some C.hd
    unfold clsIn at hcD
    split at hcD
    · rename_i c' d' cd' sl' ho
      intro A' Q' E' s' k q
      unfold isType loadHead
      exact wpAny_bind (wpAny_loadPart (k _ _ (X _ _ ho)) (wpAny_pure q))
    · cases hcD
  · obtain ⟨cdD, hcD, _⟩ := any_some C.hd
    refine Bool.eq_false_iff.mpr fun q => ?_
    obtain rfl : D = tp := Value.ref.inj (beq_iff_eq.mp q)
    unfold clsIn at hcD
    split at hcD
    · rename_i c' d' cd' sl' ho
      cases (X _ _ ho).symm.trans htp
    · cases hcD
end
/-- isinstance(e, c), e a held error at a, of class D, its dict d -/
def rIsP (K : PySem.W.Frag) (D a : Addr) (d : Option Addr) : List V → Hp → VK → Prop := fun xs H Q => ∃ (c : V) (cv : Value) (b : Bool), xs = [.ref a, c] ∧ (∀ u, RelV c u → u = cv) ∧ (∀ dd, d = some dd → ∃ fs, H dd = some (.xd fs)) ∧ PySem.W.kitOne K (.ref D) cv = some b ∧ Q (.bl b) H
theorem call_isP {X : Cx} {a D : Addr} {oe : Obj} {d : Option Addr} (C : ExcC X.K D) (hz : Zc (.ref D) d oe) (hf : ∃ vs, oe.data = .fields vs) (hp : (a, oe) ∈ X.pn) : CallR X (.builtin "isinstance") (rIsP X.K D a d) := by
  intro pins s σ H xs us Q I r h
  obtain ⟨c, cv, b, rfl, hcv, hd, e, q⟩ := h
  cases r with
  | cons rx rr =>
    cases rr with
    | cons rt rr =>
      cases rr
      cases rx
      have ec := hcv _ rt
      subst ec
      obtain ⟨hget, _⟩ := I.pin (a, oe) (List.mem_append.mpr (.inl hp))
      obtain ⟨vs, hv⟩ := hf
      have J : ∃ od, PySem.W.InstAt s.heap a oe D od := by
        obtain ⟨oc, o1, oda, osl⟩ := oe
        obtain ⟨h1, h2⟩ := hz
        dsimp only at h1 h2 hv
        subst h1 h2 hv
        cases o1 with
        | none => exact ⟨none, hget, rfl, rfl, trivial⟩
        | some dd =>
          obtain ⟨fs, ea⟩ := hd dd rfl
          obtain ⟨mA, hns, _⟩ := I.hok dd _ ea
          obtain ⟨od, ho, _⟩ := lookIn_ns hns
          exact ⟨some od, hget, rfl, rfl, ho⟩
      obtain ⟨od, J⟩ := J
      exact PySem.W.kia_one (held_kit C) I.kIn J e (fun z => nomatch z) fun tk => ⟨.bl b, H, I.kept (t' := tk) fun _ _ z => z, rfl, q⟩
/-! ### try with clauses that name the error -/
def wAsMany (K : PySem.W.Frag) (i : Nat) (Wout : WX) (D : Ends) : List (Value × (Addr → Value → Option Addr → TS)) → WX
  | [] => Wout
  | (c, ts) :: l => fun cls d σ H => ∃ b, PySem.W.exmOne K cls c = some b ∧
      (b = true → ∀ a, H a = none → ts a cls d { nx := fun σ' H' => D.nx (σ'.set i none) H', rt := D.rt, bk := fun σ' H' => D.bk (σ'.set i none) H', ct := fun σ' H' => D.ct (σ'.set i none) H' } (σ.set i (some (.ref a))) H) ∧
      (b = false → wAsMany K i Wout D l cls d σ H)
inductive HdsAs (X : Cx) (n : Str) : List ExceptHandler → List (Value × (Addr → Value → Option Addr → TS)) → Prop
  | nil : HdsAs X n [] []
  | cons {x : Str} {c : Value} {ts : Addr → Value → Option Addr → TS} {b₀ : Stmt} {suite : List Stmt} {np pos' : Pos} {hds : List ExceptHandler} {l : List (Value × (Addr → Value → Option Addr → TS))} (hc : Names X x c)
      (hsu : ∀ (a : Addr) (oe : Obj) (cls : Value) (d : Option Addr) (pn : List (Addr × Obj)), L2N.Zn cls d oe → (∃ vs, oe.data = .fields vs) → PSs (X.suite a ((a, oe) :: pn)) (b₀ :: suite) (ts a cls d)) (r : HdsAs X n hds l) :
      HdsAs X n (.ExceptHandler (some (.Name x np)) (some n) (b₀ :: suite) pos' :: hds) ((c, ts) :: l)
section
open L2N
variable {X : Cx} {n : Str} {i : Nat} {body : List Stmt} {h₀ : ExceptHandler} {hds : List ExceptHandler} {l : List (Value × (Addr → Value → Option Addr → TS))} {pos : Pos} {tb : WX → TS} {Wout : WX}
theorem ps_tryAs (hs : X.stack = X.env :: X.outer) (hf : X.env.frame = some X.env.locals) (hN : X.N.Nodup) (hi : X.N[i]? = some n) (hln : X.env.kindOf n = some .local) (tk : L2N.Takes X Wout)
    (hb : ∀ (W : WX) (pn : List (Addr × Obj)) (xe : Value → Shared → Prop), L2N.Takes (X.tr pn xe) W → PassesOwn (model X.prog X.w) X.A X.env xe → PSs (X.tr pn xe) body (tb W))
    (hh : HdsAs X n (h₀ :: hds) l) : PS X (.Try body (h₀ :: hds) [] [] pos) (fun D σ H => tb (wAsMany X.K i Wout D l) D σ H) := by
  refine ⟨fun pins s σ H D I h => ?_⟩
  have ok := I.ok
  have hfr : X.A.frames = some (X.env :: X.outer) := by rw [ok.frames, hs]
  have hloc : Loc X.env.scope n := .inl hln
  refine wpAny_Try_except (wpAny_mono ((hb (wAsMany X.K i Wout D l) (X.pn ++ pins) (fun e s₁ => wpAny (model X.prog X.w) X.A (noteFrame e X.env) (fun _ s₂ => wpAny (model X.prog X.w) X.A (setFlight e none) (fun _ s₃ =>
    wpAny (model X.prog X.w) X.A (handleBy e X.env (h₀ :: hds)) (SP X pins D) X.xe s₃) X.xe s₂) X.xe s₁) (fun u s' xx => ?_) PassesOwn.looking).run [] s σ H D (I.toTry _) h) (fun f s1 hsp => ?_) (fun e s1 he => he))
  · obtain ⟨a, B, sI, pins', σ', H', cls, d, rfl, J', nb, up, sky, na, os, ag, w⟩ := xx
    have J : Inv X pins σ' H' sI := J'.ofTry ok
    show wpAny (model X.prog X.w) X.A (noteFrame (.ref a) X.env) _ _ _
    refine L2N.Sky.land (B := B) (L := X.env.locals) Zn.steady hfr hf (by rw [← hs]; exact sky) fun h3 fl3 up3 => ?_
    have J3 : Inv X pins σ' H' { s' with heap := h3 } := J.landed nb fl3.1 (up.trans up3) os ag
    obtain ⟨oe3, vs3, he3, hz3, hd3⟩ := fl3.there
    have nfr : a ∉ frs (X.env :: X.outer) := fun hm => by
      obtain ⟨_, o', e', hnf⟩ := fl3.2.2.1.mem hm
      rw [he3] at e'; cases e'
      exact hnf _ hd3
    have nL : a ≠ X.env.locals := fun z => nfr (List.mem_filterMap.mpr ⟨X.env, List.mem_cons_self, by rw [hf, z]⟩)
    have nF : a ∉ X.fs := fun hm => by
      obtain ⟨e, he, q⟩ := List.mem_filterMap.mp hm
      exact nfr (List.mem_filterMap.mpr ⟨e, List.mem_cons_of_mem _ he, q⟩)
    have S3 := J3.suite he3 hd3 na nL nF
    have go : ∀ {hds' : List ExceptHandler} {l' : List (Value × (Addr → Value → Option Addr → TS))}, HdsAs X n hds' l' → wAsMany X.K i Wout D l' cls d σ' H' →
        wpAny (model X.prog X.w) X.A (handleBy (.ref a) X.env hds') (SP X pins D) X.xe { s' with heap := h3 } := by
      intro hds' l' hk
      induction hk with
      | nil =>
        intro w
        refine wpAny_handleBy_nil ?_
        obtain ⟨k1, k2, k3, oe, vs, T, oT, ts', he, hz, hd, h1, hr⟩ := id fl3
        unfold PySem.passOn
        refine wpAny_bind (wpAny_field he hd h1 ?_)
        rw [if_neg (show ¬ ((Value.ref T == Value.none) = true) from by simp)]
        have fin : wpAny (model X.prog X.w) X.A (setFlight (.ref a) X.env.frame) (fun _ s4 => wpAny (model X.prog X.w) X.A (throw (.ref a) : Sem Flow) (SP X pins D) X.xe s4) X.xe { s' with heap := h3 } := by
          rw [hf]
          exact HandSPX.setFlight_upZ fl3 fun h4 hh4 up4 => wpAny_throw (tk _ _ ⟨a, B, sI, pins, σ', H', cls, d, rfl, J, nb, (up.trans up3).trans up4, .inr (.inr (by rw [hs]; exact hh4)), na, os, ag, w⟩)
        first
          | exact wpAny_bind (wpAny_pure (wpAny_bind fin))
          | exact wpAny_bind fin
      | @cons x c ts b₀ suite np pos' hds2 l2 hc hsu r ih =>
        intro w
        obtain ⟨b, hb1, hyes, hno⟩ := w
        refine wpAny_handleBy_cons (codeAny_handlers_test ?_) (by intro q; cases q)
        have LT : PySem.W.Looks (model X.prog X.w) h3 (typeOf (.ref a)) cls := fun A Q E s k q => wpAny_typeOf_ref (k _ _ he3) (by rw [hz3.1]; exact q)
        have LM := PySem.W.exm_one (M := model X.prog X.w) (J3.kIn) LT hb1
        have test : ∀ {Q : Value → Shared → Prop} {E : Value → Shared → Prop}, Q c { s' with heap := h3 } → wpAny (model X.prog X.w) (X.A.mark (some (.ref a))) (eval (.Name x np) X.env) Q E { s' with heap := h3 } := fun {Q E} q => by
          obtain ⟨hg, hdbg, hm | ⟨hm, hv, hnn⟩⟩ := hc
          · exact ld_glob (X := X.suite a ((a, oe3) :: (X.pn ++ pins))) S3 hg hm q hdbg
          · exact ld_blt (X := X.suite a ((a, oe3) :: (X.pn ++ pins))) S3 hg hm hv q hnn hdbg
        refine test (LM.here ?_)
        cases b with
        | false =>
          show wpAny _ X.A (handleBy (.ref a) X.env hds2) _ _ _
          exact ih (hno rfl)
        | true =>
          refine codeAny_handlers_suite_as (HandSPX.lands_againZ fl3 fun h4 fl4 up4 => ?_)
          have J4 : Inv X pins σ' H' { s' with heap := h4 } := J.landed nb fl4.1 ((up.trans up3).trans up4) os ag
          obtain ⟨oe4, vs4, he4, hz4, hd4⟩ := fl4.there
          have S4 := J4.suite he4 hd4 na nL nF
          refine store_ok (X := X.suite a ((a, oe4) :: (X.pn ++ pins))) (v := .ref a) S4 hN hi hloc rfl (fun s5 S5 => ?_) (.inr hln)
          refine wpAny_mono ((hsu a oe4 cls d (X.pn ++ pins) hz4 ⟨_, hd4⟩).run [] s5 _ H' _ S5 (hyes rfl a na)) (fun f s6 hsp => ?_) (fun _ _ z => False.elim z)
          have done : ∀ {σ6 : L2.St} {H6 : Hp} {Q : Shared → Prop}, Inv (X.suite a ((a, oe4) :: (X.pn ++ pins))) [] σ6 H6 s6 → (∀ s7, Inv X pins (σ6.set i none) H6 s7 → Q s7) →
              wpAny (model X.prog X.w) X.A (do bindName X.env n .none; unbindBehindTheSuite X.env n pos') (fun _ s7 => Q s7) X.xe s6 := fun {σ6 H6 Q} S6 hq => gone_ok (S6.unsuite ok) hN hi hln hq
          cases f with
          | ret u =>
            obtain ⟨v6, σ6, H6, S6, r6, q6⟩ := hsp
            exact done S6 fun s7 J7 => ⟨_, _, _, J7, r6, q6⟩
          | next => obtain ⟨σ6, H6, S6, q6⟩ := hsp; exact done S6 fun s7 J7 => ⟨_, _, J7, q6⟩
          | brk => obtain ⟨σ6, H6, S6, q6⟩ := hsp; exact done S6 fun s7 J7 => ⟨_, _, J7, q6⟩
          | cont => obtain ⟨σ6, H6, S6, q6⟩ := hsp; exact done S6 fun s7 J7 => ⟨_, _, J7, q6⟩
    exact go hh w
  · cases f with
    | next => obtain ⟨σ', H', J', q⟩ := hsp; exact wpAny_execs_nil ⟨σ', H', J'.ofTry ok, q⟩
    | brk => obtain ⟨σ', H', J', q⟩ := hsp; exact ⟨σ', H', J'.ofTry ok, q⟩
    | cont => obtain ⟨σ', H', J', q⟩ := hsp; exact ⟨σ', H', J'.ofTry ok, q⟩
    | ret u => obtain ⟨v, σ', H', J', r, q⟩ := hsp; exact ⟨v, σ', H', J'.ofTry ok, r, q⟩
end
end LL

set_option Elab.async false
set_option linter.all false
set_option maxRecDepth 100000
set_option maxHeartbeats 2000000
/-! LNam: a def that is called in an except suite with the held error itself -/
namespace LL
open PySem PySem.Spec PyProof.Rows L2 L2H
/-- what a def promises of a call whose argument may be the held error p -/
structure FnP (P : Program) (w : World) (K : PySem.W.Frag) (mg : Str → Option Value) (base : Heap) (k : Nat) (f : Addr) (fd : FuncData) (ps : List Str) (sp : Addr × Obj → Sp) : Prop where
  len : ∀ p vs H Q E, sp p vs H Q E → vs.length = ps.length
  run : ∀ (A : Around) (outer : List Env) (s : Shared) (H : Hp) (args : Args) (us : List Value) (vs : List V) (Q : VK) (E : XK) (p : Addr × Obj), RoomH k A → PinOk outer H s p → Env0 P w K mg base A outer s H → BindsTo s fd args (ps.zip us) → Vals vs us → sp p vs H Q E →
    codeAny (model P w) A (.call (.ref f) args) (CR CX0 outer P w H s Q E) s
theorem okP {P : Program} {w : World} {K : PySem.W.Frag} {mg : Str → Option Value} {base : Heap} {x qual : Str} {st : Stmt} {f : Addr} {fd : FuncData} {N ps : List Str} {k : Nat} {sp : Addr × Obj → Sp} (F : Fun K x qual st f fd) (S : FnScope N ps (defScope st))
    (len : ∀ p vs H Q E, sp p vs H Q E → vs.length = ps.length)
    (hb : ∀ (cdv : Value) (A : Around) (outer : List Env) (s : Shared) (H : Hp) (vs : List V) (Q : VK) (E : XK) (p : Addr × Obj), RoomH k (A.deeper (envOfC qual (defScope st) s.heap.objs.size f cdv)) → sp p vs H Q E →
      ∃ t, PSs (cxH CX0 P w K mg base N qual (defScope st) f cdv A outer s H E p) (defBody st) t ∧ t { nx := fun _ H' => Q .non H', rt := Q } (L2.start N vs) H) :
    FnP P w K mg base (k + 1) f fd ps sp := by
  obtain ⟨o1, o2, kV, doc, pm, an, cdv, ct, osl, e, lk, hcd⟩ := F.ex
  subst e
  constructor
  case len => exact len
  case run =>
    intro A outer s H args us vs Q E p hr hpin e0 hbd r hsp
    have hl := len _ _ _ _ _ hsp
    have inK : K.In s.heap := e0.mod.kin.keeps fun b o e => (e0.bs b o e).1
    have noLim : s.heap.NoLimit := e0.mod.nolimit.keeps fun b o e => (e0.bs b o e).1
    have kinds : ∀ y ∈ ps.zip us, (defScope st).names.lookup y.1 = some .local ∨ ((defScope st).names.lookup y.1 = some .cell ∧ ((cellsFrom (s.heap.objs.size + 1) (defScope st).names []).lookup y.1).isSome = true) := by
      rintro ⟨n, v⟩ hy
      rcases S.par n (List.of_mem_zip hy).1 with q | q
      · exact .inl q
      · exact .inr ⟨q, PySem.W.cellsFrom_some _ _ _ (.inl q)⟩
    refine codeAny_call_function hr.depth (inK _ _ lk) rfl S.co S.gen rfl (PySem.W.codeRec_of inK hcd) (hbd _ _ _ _ (wpAny_newFunctionEnv_cells S.kind kinds fun env he s1 x => ?_))
    subst he
    refine ⟨noLim.keeps x.toInCall.keep, codeAny_func ?_⟩
    obtain ⟨t, ht, hq⟩ := hb cdv A outer s H vs Q E p (hr.deeper _) hsp
    have I := inv_startH (CX := CX0) (mg := mg) (E := E) S hpin e0 hl r x
    refine wpAny_mono (ht.run [] s1 (L2.start N vs) H _ I hq) (fun fl s' hs => ?_) fun e s' hs => hs
    cases fl with
    | ret u =>
      obtain ⟨v, σ', H', J, rv, q⟩ := hs
      exact ⟨v, H', J.os, J.bare, J.base, J.hok, rv, q⟩
    | next =>
      obtain ⟨σ', H', J, q⟩ := hs
      exact ⟨V.non, H', J.os, J.bare, J.base, J.hok, rfl, q⟩
    | brk => obtain ⟨_, _, _, q⟩ := hs; exact q.elim
    | cont => obtain ⟨_, _, _, q⟩ := hs; exact q.elim
def tCallP (sp : Addr × Obj → Sp) (p : Addr × Obj) (E : XK) (t : TA) : TE := fun σ H Q => t σ H fun vs H1 => sp p vs H1 Q E
theorem pe_callP {X : Cx} {k : Nat} {f : Addr} {fd : FuncData} {ps : List Str} {sp : Addr × Obj → Sp} {E : XK} {x : Str} {q pos : Pos} {e : Expr} {es : List Expr} {t : TA} {p : Addr × Obj} (F : FnP X.prog X.w X.K X.mg X.base k f fd ps sp) (hr : RoomH k X.A) (hp : p ∈ X.pn) (hg : Gl X x)
    (hm : X.mg x = some (.ref f)) (hk : PySem.W.keepIn X.K (.ref f) = true) (hb : Binds X.K fd ps []) (ha : PA X (e :: es) t) (hdb : (x == ("__debug__" : Str)) = false := by decide) (he : starEach (e :: es) X.env = (false, eval e X.env) :: starEach es X.env := by rfl)
    (hpl : (backTo pos (starEach es X.env)).any (·.1) = false := by rfl) : PE X (.Call (.Name x q) (e :: es) [] pos) (tCallP sp p E t) := by
  refine ⟨fun pins s σ H Q I h => wpAny_Call_Name_kw (ld_glob I hg hm ?_ hdb)⟩
  refine PySem.W.callWith_K (h₀ := X.base) I.ok.mod.kin hk (thn (ha.run pos pins s σ H _ I h) fun us s1 ⟨vs, H1, I1, r, hs⟩ => ⟨I1.kIn, ?_⟩) he hpl
  have hl : us.length = ps.length := by rw [← r.length]; exact F.len _ _ _ _ _ hs
  have b := hb s1 us I1.kIn (by rw [List.append_nil]; exact hl)
  rw [List.append_nil] at b
  have P1 := I1.pin p (List.mem_append_left _ hp)
  have hpin : PinOk X.stack H1 s1 p := ⟨P1.1, P1.2.1, fun hm => (List.mem_cons.mp (I1.stkSub p.1 hm)).elim P1.2.2.1 P1.2.2.2.1, P1.2.2.2.2⟩
  refine wpAny_call (codeAny_mono (F.run X.A X.stack s1 H1 ⟨us, []⟩ us vs Q E p hr hpin I1.env0 b r hs) fun r s' hq => ?_)
  cases r with
  | error e => exact False.elim hq
  | ok fl =>
    cases fl with
    | ret u => exact I1.after hq
    | next => exact False.elim hq
    | brk => exact False.elim hq
    | cont => exact False.elim hq
end LL

set_option Elab.async false
set_option linter.all false
set_option maxRecDepth 100000
set_option maxHeartbeats 400000
namespace LL
open PySem PySem.Spec PyProof.Rows L2
variable [KW]
theorem szL_le {k : Nat} : ∀ {ds : List PyData}, (∀ d ∈ ds, sz d ≤ k) → szL ds ≤ k * ds.length
  | [], _ => by rw [szL_nil]; exact Nat.zero_le _
  | d :: ds, h => by
    have := szL_le (ds := ds) (fun x hx => h x (List.mem_cons_of_mem _ hx))
    have := h d List.mem_cons_self
    rw [szL_cons, List.length_cons, Nat.mul_succ]
    omega
theorem depL_le {k : Nat} : ∀ {ds : List PyData}, (∀ d ∈ ds, dep d ≤ k) → depL ds ≤ k
  | [], _ => by rw [depL_nil]; exact Nat.zero_le _
  | d :: ds, h => by
    have := depL_le (ds := ds) (fun x hx => h x (List.mem_cons_of_mem _ hx))
    have := h d List.mem_cons_self
    rw [depL_cons]
    omega
theorem IsDs.setV {M : List Addr} {H : Hp} {v : V} {d : PyData} (x : Is M H d v) : ∀ {ds : List PyData} {vs : List V} (j : Nat), IsDs M H ds vs → IsDs M H (ds.set j d) (vs.set j v)
  | [], vs, j, y => by
    unfold IsDs at y
    subst y
    exact IsDs.nil
  | e :: ds, vs, 0, y => by
    unfold IsDs at y
    obtain ⟨v', r, rfl, h1, h2⟩ := y
    exact IsDs.cons x h2
  | e :: ds, vs, j + 1, y => by
    unfold IsDs at y
    obtain ⟨v', r, rfl, h1, h2⟩ := y
    exact IsDs.cons h1 (IsDs.setV x j h2)
theorem mem_set {α : Type} {P : α → Prop} {d : α} (hd : P d) : ∀ {ds : List α} (j : Nat), (∀ x ∈ ds, P x) → ∀ x ∈ ds.set j d, P x := fun {ds} j h x hx => by
  rcases List.mem_or_eq_of_mem_set hx with h1 | h1
  · exact h x h1
  · rw [h1]; exact hd
/-- a sheet of good rows, a stream beside it -/
structure ShAt (H : Hp) (s sh : Addr) (rs : List V) (ds : List PyData) : Prop where
  str : StrAt [s] H s
  ne : sh ≠ s
  at_ : H sh = some (.lst rs)
  rd : IsDs [s] H ds rs
  len : ds.length ≤ 200
  sm : ∀ d ∈ ds, Small d
theorem ShAt.adv {H H' : Hp} {s sh : Addr} {rs : List V} {ds : List PyData} (x : ShAt H s sh rs ds) (a : Adv [s] H H') (hs : StrAt [s] H' s) : ShAt H' s sh rs ds :=
  ⟨hs, x.ne, a _ _ (by simpa using x.ne) x.at_, x.rd.adv a, x.len, x.sm⟩
theorem ShAt.same {H H' : Hp} {s sh : Addr} {rs : List V} {ds : List PyData} (x : ShAt H s sh rs ds) (a : Adv [] H H') : ShAt H' s sh rs ds := x.adv (Adv.nil a) (x.str.same a)
theorem ShAt.is {H : Hp} {s sh : Addr} {rs : List V} {ds : List PyData} (x : ShAt H s sh rs ds) : Is [s] H (.list ds) (.ref sh) := Is.lst x.at_ (by simpa using x.ne) x.rd
theorem sm_sz {ds : List PyData} (h : ∀ d ∈ ds, Small d) (hl : ds.length ≤ 200) : szL ds ≤ 800 := by
  have := szL_le (k := 4) (fun d hd => (h d hd).1)
  omega
theorem sm_dep {ds : List PyData} (h : ∀ d ∈ ds, Small d) : depL ds ≤ 1 := depL_le fun d hd => (h d hd).2.1
/-- a copy that is bent -/
structure BtAt (H : Hp) (s bt : Addr) (rs : List V) (ds : List PyData) : Prop where
  str : StrAt [bt, s] H s
  ne : bt ≠ s
  at_ : H bt = some (.lst rs)
  rd : IsDs [bt, s] H ds rs
  len : ds.length ≤ 300
  sm : ∀ d ∈ ds, sz d ≤ 10 ∧ dep d ≤ 3
theorem BtAt.al {H : Hp} {s bt : Addr} {rs : List V} {ds : List PyData} (x : BtAt H s bt rs ds) : ∀ b ∈ [bt, s], H b ≠ none := fun b hb => by
  simp at hb
  rcases hb with h | h
  · rw [h, x.at_]; simp
  · rw [h]; exact x.str.here
theorem BtAt.adv {H H' : Hp} {s bt : Addr} {rs : List V} {ds : List PyData} (x : BtAt H s bt rs ds) (a : Adv [s] H H') (hs : StrAt [bt, s] H' s) : BtAt H' s bt rs ds :=
  ⟨hs, x.ne, a _ _ (by simpa using x.ne) x.at_, x.rd.adv (a.more (by simp)), x.len, x.sm⟩
theorem BtAt.same {H H' : Hp} {s bt : Addr} {rs : List V} {ds : List PyData} (x : BtAt H s bt rs ds) (a : Adv [] H H') : BtAt H' s bt rs ds := x.adv (Adv.nil a) (x.str.same a)
theorem BtAt.is {H : Hp} {s bt : Addr} {rs : List V} {ds : List PyData} (x : BtAt H s bt rs ds) : Is [] H (.list ds) (.ref bt) := Is.lst x.at_ (by simp) (x.rd.less (by simp))
theorem BtAt.szB {H : Hp} {s bt : Addr} {rs : List V} {ds : List PyData} (x : BtAt H s bt rs ds) : sz (.list ds) ≤ 500000 := by
  have := szL_le (k := 10) (fun d hd => (x.sm d hd).1)
  have := x.len
  rw [sz_lst]
  omega
theorem BtAt.depB {H : Hp} {s bt : Addr} {rs : List V} {ds : List PyData} (x : BtAt H s bt rs ds) : dep (.list ds) ≤ 8 := by
  have := depL_le (k := 3) (fun d hd => (x.sm d hd).2)
  rw [dep_lst]
  omega
theorem BtAt.put {H : Hp} {s bt : Addr} {rs : List V} {ds : List PyData} (x : BtAt H s bt rs ds) {v : V} {d : PyData} (j : Nat) (hv : Is [bt, s] H d v) (h1 : sz d ≤ 10) (h2 : dep d ≤ 3) : BtAt (upd H bt (.lst (rs.set j v))) s bt (rs.set j v) (ds.set j d) := by
  have a : Adv [bt] H (upd H bt (.lst (rs.set j v))) := Adv.set (by simp)
  have a2 : Adv [bt, s] H (upd H bt (.lst (rs.set j v))) := a.more (by simp)
  exact ⟨x.str.adv a (by simpa using x.ne.symm) (by simp), x.ne, upd_same, (IsDs.setV hv j x.rd).adv a2, by rw [List.length_set]; exact x.len, mem_set (P := fun d => sz d ≤ 10 ∧ dep d ≤ 3) ⟨h1, h2⟩ j x.sm⟩
theorem BtAt.push {H : Hp} {s bt : Addr} {rs : List V} {ds : List PyData} (x : BtAt H s bt rs ds) {v : V} {d : PyData} (hv : Is [bt, s] H d v) (h1 : sz d ≤ 10) (h2 : dep d ≤ 3) (hl : ds.length ≤ 200) : BtAt (upd H bt (.lst (rs ++ [v]))) s bt (rs ++ [v]) (ds ++ [d]) := by
  have a : Adv [bt] H (upd H bt (.lst (rs ++ [v]))) := Adv.set (by simp)
  have a2 : Adv [bt, s] H (upd H bt (.lst (rs ++ [v]))) := a.more (by simp)
  refine ⟨x.str.adv a (by simpa using x.ne.symm) (by simp), x.ne, upd_same, (x.rd.app (.cons hv .nil)).adv a2, by rw [List.length_append, List.length_singleton]; omega, fun y hy => ?_⟩
  rcases List.mem_append.mp hy with h | h
  · exact x.sm y h
  · rw [List.mem_singleton.mp h]; exact ⟨h1, h2⟩
theorem ShAt.bend {H : Hp} {s sh bt : Addr} {rs : List V} {ds : List PyData} (x : ShAt H s sh rs ds) (n : H bt = none) : BtAt (upd H bt (.lst rs)) s bt rs ds := by
  have ns : s ≠ bt := fun z => x.str.here (by rw [z]; exact n)
  have a : Adv [] H (upd H bt (.lst rs)) := Adv.new n
  exact ⟨(x.str.fresh n).same a, ns.symm, upd_same, (x.rd.fresh n).adv (Adv.nil a), by have := x.len; omega, fun d hd => ⟨by have := (x.sm d hd).1; omega, by have := (x.sm d hd).2.1; omega⟩⟩
theorem BtAt.sheet {H0 H : Hp} {s sh bt : Addr} {rs rs' : List V} {ds ds' : List PyData} (x : BtAt H s bt rs' ds') (y : ShAt H0 s sh rs ds) (n : H0 bt = none) (a : Adv [bt, s] H0 H) : ShAt H s sh rs ds :=
  y.adv (a.drop n) (x.str.less (by simp))
end LL

set_option Elab.async false
set_option linter.all false
set_option maxRecDepth 100000
set_option maxHeartbeats 400000
/-! LNd: the nodes of a right sheet by themselves -/
namespace LL
open PySem PySem.Spec PyProof.Rows L2
variable [KW]
inductive Op3
  | and | or | imp
  deriving DecidableEq
def Op3.str : Op3 → Str
  | .and => "and"
  | .or => "or"
  | .imp => "if"
inductive Nd
  | no | letter (i : Nat) | bin (o : Op3) (j k : Nat) | box (j : Nat)
  deriving DecidableEq
def Nd.keys : Nd → List Key
  | .no => [.inr "no"]
  | .letter i => [.inr "letter", .inl i]
  | .bin o j k => [.inr o.str, .inl j, .inl k]
  | .box j => [.inr "box", .inl j]
def Nd.data (n : Nd) : PyData := .tuple (n.keys.map keyDt)
def Nd.ok (boxed : Bool) (at_ : Nat) : Nd → Bool
  | .no => true
  | .letter i => decide (i ≤ 7)
  | .bin _ j k => decide (j < at_) && decide (k < at_)
  | .box j => boxed && decide (j < at_)
theorem op_inj {o p : Op3} (h : o.str = p.str) : o = p := by
  cases o <;> cases p <;> first | rfl | exact absurd h (by decide)
theorem op_no (o : Op3) : o.str ≠ "no" ∧ o.str ≠ "letter" ∧ o.str ≠ "box" := by cases o <;> decide
theorem keys_inj {m n : Nd} (h : m.keys = n.keys) : m = n := by
  cases m <;> cases n <;> simp only [Nd.keys, List.cons.injEq, Sum.inr.injEq, Sum.inl.injEq, and_true, reduceCtorEq, and_false] at h
  case no.no => rfl
  case letter.letter i j =>
    have := h.2
    congr 1
    omega
  case letter.box i j => exact absurd h.1 (by decide)
  case bin.bin o j k o' j' k' =>
    obtain ⟨h1, h2, h3⟩ := h
    have e1 := op_inj h1
    have e2 : j = j' := by omega
    have e3 : k = k' := by omega
    subst e1; subst e2; subst e3; rfl
  case box.letter i j => exact absurd h.1 (by decide)
  case box.box i j =>
    have := h.2
    congr 1
    omega
theorem Nd.keysD (n : Nd) : LL.keysD n.data = n.keys := by
  cases n <;> rfl
theorem num_nat {lo hi : Int} {p : PyData} (h : isNum lo hi p = true) (h0 : 0 ≤ lo) : ∃ i : Nat, p = .int i ∧ lo ≤ i ∧ (i : Int) ≤ hi := by
  cases p with
  | int i =>
    simp only [isNum, Bool.and_eq_true, decide_eq_true_eq] at h
    exact ⟨i.toNat, by rw [Int.toNat_of_nonneg (by omega)], by omega, by omega⟩
  | _ => cases h
/-- what the check of a node says -/
theorem nodeB_nd {boxed : Bool} {at_ : Nat} {d : PyData} (h : nodeB boxed at_ d = true) : ∃ n : Nd, d = n.data ∧ n.ok boxed at_ = true := by
  unfold nodeB at h
  split at h
  case h_2 => cases h
  rename_i w ps
  split at h
  case isFalse => cases h
  rename_i hn
  have one : ∀ {lo hi : Int} {q : List PyData}, q.length = 1 → 0 ≤ lo → q.all (isNum lo hi) = true → ∃ i : Nat, q = [.int i] ∧ lo ≤ i ∧ (i : Int) ≤ hi := fun {lo hi q} hl h0 ha => by
    match q, hl with
    | [p], _ =>
      simp only [List.all_cons, List.all_nil, Bool.and_true] at ha
      obtain ⟨i, rfl, h1, h2⟩ := num_nat ha h0
      exact ⟨i, rfl, h1, h2⟩
  have two : ∀ {lo hi : Int} {q : List PyData}, q.length = 2 → 0 ≤ lo → q.all (isNum lo hi) = true → ∃ i k : Nat, q = [.int i, .int k] ∧ (i : Int) ≤ hi ∧ (k : Int) ≤ hi := fun {lo hi q} hl h0 ha => by
    match q, hl with
    | [p, r], _ =>
      simp only [List.all_cons, List.all_nil, Bool.and_true, Bool.and_eq_true] at ha
      obtain ⟨i, rfl, h1, h2⟩ := num_nat ha.1 h0
      obtain ⟨k, rfl, h3, h4⟩ := num_nat ha.2 h0
      exact ⟨i, k, rfl, h2, h4⟩
  unfold nItems at hn
  by_cases e1 : w = "letter"
  · subst e1
    rw [if_pos rfl] at hn h
    have hl : ps.length = 1 := by
      have := Option.some.inj hn
      omega
    obtain ⟨i, rfl, h1, h2⟩ := one hl (by omega) h
    exact ⟨.letter i, rfl, by simp only [Nd.ok, decide_eq_true_eq]; omega⟩
  rw [if_neg e1] at hn h
  by_cases e2 : w = "no"
  · subst e2
    rw [if_pos rfl] at hn
    have hl : ps = [] := by
      have := Option.some.inj hn
      exact List.length_eq_zero_iff.mp (by omega)
    subst hl
    exact ⟨.no, rfl, rfl⟩
  rw [if_neg e2] at hn
  have bin : ∀ o : Op3, w = o.str → ps.length = 2 → (if (w = "box" && !boxed) = true then false else ps.all (isNum 0 ((at_ : Int) - 1))) = true → ∃ n : Nd, PyData.tuple (.str w :: ps) = n.data ∧ n.ok boxed at_ = true := fun o ew hl hh => by
    have nb : ¬ (w = "box" && !boxed) = true := by
      intro z
      simp only [Bool.and_eq_true, decide_eq_true_eq] at z
      exact (op_no o).2.2 (by rw [← ew]; exact z.1)
    rw [if_neg nb] at hh
    obtain ⟨i, k, rfl, h2, h3⟩ := two hl (by omega) hh
    subst ew
    exact ⟨.bin o i k, rfl, by simp only [Nd.ok, Bool.and_eq_true, decide_eq_true_eq]; omega⟩
  by_cases e3 : w = "and"
  · subst e3
    rw [if_pos rfl] at hn
    exact bin .and rfl (by have := Option.some.inj hn; omega) h
  rw [if_neg e3] at hn
  by_cases e4 : w = "or"
  · subst e4
    rw [if_pos rfl] at hn
    exact bin .or rfl (by have := Option.some.inj hn; omega) h
  rw [if_neg e4] at hn
  by_cases e5 : w = "if"
  · subst e5
    rw [if_pos rfl] at hn
    exact bin .imp rfl (by have := Option.some.inj hn; omega) h
  rw [if_neg e5] at hn
  by_cases e6 : w = "box"
  · subst e6
    rw [if_pos rfl] at hn
    have hl : ps.length = 1 := by
      have := Option.some.inj hn
      omega
    cases boxed with
    | false => exact absurd h (by simp)
    | true =>
      have h' : ps.all (isNum 0 ((at_ : Int) - 1)) = true := by simpa using h
      obtain ⟨i, rfl, h1, h2⟩ := one hl (by omega) h'
      exact ⟨.box i, rfl, by simp only [Nd.ok, Bool.true_and, decide_eq_true_eq]; omega⟩
  rw [if_neg e6] at hn
  cases hn
/-- a right sheet -/
def okSheet (boxed : Bool) (ns : List Nd) : Prop := ns.Nodup ∧ ∀ (i : Nat) (n : Nd), ns[i]? = some n → n.ok boxed i = true
/-- the row of a node, a new one at the end if there is none -/
def rowF (ns : List Nd) (n : Nd) : Nat × List Nd := if n ∈ ns then (ns.idxOf n, ns) else (ns.length, ns ++ [n])
theorem rowF_lt (ns : List Nd) (n : Nd) : (rowF ns n).1 < (rowF ns n).2.length := by
  unfold rowF
  split
  · exact List.idxOf_lt_length_of_mem (by assumption)
  · simp
theorem rowF_pre (ns : List Nd) (n : Nd) : ns <+: (rowF ns n).2 := by
  unfold rowF
  split
  · exact List.prefix_refl _
  · exact List.prefix_append _ _
theorem rowF_at (ns : List Nd) (n : Nd) : (rowF ns n).2[(rowF ns n).1]? = some n := by
  unfold rowF
  split
  · rename_i h
    have hl := List.idxOf_lt_length_of_mem h
    rw [List.getElem?_eq_getElem hl, List.getElem_idxOf hl]
  · simp
theorem rowF_ok {boxed : Bool} {ns : List Nd} {n : Nd} (h : okSheet boxed ns) (hn : n.ok boxed ns.length = true) : okSheet boxed (rowF ns n).2 := by
  unfold rowF
  split
  · exact h
  · rename_i hm
    refine ⟨?_, fun i m hi => ?_⟩
    · rw [List.nodup_append]
      refine ⟨h.1, by simp, fun a ha b hb => ?_⟩
      rw [List.mem_singleton.mp hb]
      exact fun e => hm (e ▸ ha)
    · rcases Nat.lt_or_ge i ns.length with hl | hl
      · rw [List.getElem?_append_left hl] at hi
        exact h.2 i m hi
      · have e : i = ns.length := by
          have := (List.getElem?_eq_some_iff.mp hi).1
          simp at this
          omega
        subst e
        simp at hi
        subst hi
        exact hn
theorem Nd.ok_mono {boxed : Bool} {i j : Nat} {n : Nd} (h : n.ok boxed i = true) (hij : i ≤ j) : n.ok boxed j = true := by
  cases n <;> simp only [Nd.ok, Bool.and_eq_true, decide_eq_true_eq] at h ⊢ <;> first | exact h | omega | (exact ⟨h.1, by omega⟩)
/-- the row that denies row r -/
def denyF (ns : List Nd) (r : Nat) : Nat × List Nd := rowF (rowF ns .no).2 (.bin .imp r (rowF ns .no).1)
theorem memK_iff {k : List Key} {l : List (List Key)} : memK k l = true ↔ k ∈ l := by
  unfold memK
  rw [List.any_eq_true]
  constructor
  · rintro ⟨x, hx, e⟩
    rw [← of_decide_eq_true e]; exact hx
  · intro h
    exact ⟨k, h, by simp⟩
theorem wrongF_none {most : Int} {boxed : Bool} : ∀ {ds : List PyData} {pre : List Nd}, okSheet boxed pre → wrongF most boxed pre.length (pre.map Nd.keys) ds = none →
    ∃ ns : List Nd, ds = ns.map Nd.data ∧ okSheet boxed (pre ++ ns) ∧ (ns = [] ∨ ((pre.length + ns.length : Nat) : Int) ≤ most)
  | [], pre, hp, _ => ⟨[], rfl, by rw [List.append_nil]; exact hp, .inl rfl⟩
  | d :: ds, pre, hp, h => by
    unfold wrongF at h
    split at h
    case isFalse => cases h
    rename_i hm
    split at h
    case isFalse => cases h
    rename_i hb
    obtain ⟨n, rfl, hn⟩ := nodeB_nd hb
    split at h
    case isTrue => cases h
    rename_i hk
    rw [Nd.keysD] at hk h
    have hnm : n ∉ pre := fun z => hk (memK_iff.mpr (List.mem_map_of_mem z))
    have hp2 : okSheet boxed (pre ++ [n]) := by
      have := rowF_ok hp hn
      unfold rowF at this
      rw [if_neg hnm] at this
      exact this
    have h2 : wrongF most boxed (pre ++ [n]).length ((pre ++ [n]).map Nd.keys) ds = none := by
      rw [List.map_append, List.length_append]
      exact h
    obtain ⟨ns, e, h3, h4⟩ := wrongF_none hp2 h2
    refine ⟨n :: ns, by rw [List.map_cons, ← e], by rw [List.append_assoc] at h3; exact h3, .inr ?_⟩
    rcases h4 with h4 | h4
    · subst h4
      simp only [List.length_cons, List.length_nil]
      omega
    · rw [List.length_append] at h4
      simp only [List.length_cons, List.length_nil] at h4 ⊢
      omega
theorem wrongD_none {most : Int} {boxed : Bool} {d : PyData} (h0 : 0 ≤ most) (h : wrongD most boxed d = none) : ∃ ns : List Nd, d = .list (ns.map Nd.data) ∧ okSheet boxed ns ∧ (ns.length : Int) ≤ most := by
  cases d with
  | list ds =>
    obtain ⟨ns, e, h1, h2⟩ := wrongF_none (pre := []) ⟨List.nodup_nil, fun i n hi => by simp at hi⟩ h
    refine ⟨ns, by rw [e], h1, ?_⟩
    rcases h2 with h2 | h2
    · rw [h2]; exact h0
    · simpa using h2
  | _ => cases h
end LL

set_option Elab.async false
set_option linter.all false
set_option maxRecDepth 100000
set_option maxHeartbeats 400000
/-! LRead: the rows below rows; the three readings of rows, in plain words -/
namespace LL
open PySem PySem.Spec PyProof.Rows L2
variable [KW]
def Nd.parts : Nd → List Nat
  | .no => []
  | .letter _ => []
  | .bin _ j k => [j, k]
  | .box j => [j]
theorem parts_lt {boxed : Bool} {i : Nat} {n : Nd} (h : n.ok boxed i = true) : ∀ p ∈ n.parts, p < i := by
  cases n <;> simp [Nd.ok, Nd.parts] at h ⊢
  · exact h
  · exact h.2
def markP (m : Nat → Bool) (ps : List Nat) : Nat → Bool := fun x => m x || ps.contains x
def markDown (ns : List Nd) : Nat → (Nat → Bool) → Nat → Bool
  | 0, m => m
  | k + 1, m => markDown ns k (if m k = true then markP m ((ns[k]?.getD .no).parts) else m)
theorem markP_keep {m : Nat → Bool} {ps : List Nat} {x : Nat} (h : m x = true) : markP m ps x = true := by
  unfold markP; rw [h]; rfl
theorem markP_new {m : Nat → Bool} {ps : List Nat} {x : Nat} (h : x ∈ ps) : markP m ps x = true := by
  unfold markP
  rw [show ps.contains x = true from by simpa using h, Bool.or_true]
theorem markDown_keep (ns : List Nd) : ∀ (k : Nat) (m : Nat → Bool) (x : Nat), m x = true → markDown ns k m x = true
  | 0, m, x, h => h
  | k + 1, m, x, h => by
    unfold markDown
    refine markDown_keep ns k _ x ?_
    split
    · exact markP_keep h
    · exact h
/-- what stands at k and above isn't changed by the walk from k down -/
theorem markDown_above {boxed : Bool} {ns : List Nd} (ok : okSheet boxed ns) : ∀ (k : Nat) (m : Nat → Bool) (x : Nat), k ≤ ns.length → k ≤ x + 1 → markDown ns k m x = m x
  | 0, m, x, _, _ => rfl
  | k + 1, m, x, hk, hx => by
    unfold markDown
    rw [markDown_above ok k _ x (by omega) (by omega)]
    split
    · have hn : ns[k]? = some ns[k] := List.getElem?_eq_getElem (by omega)
      unfold markP
      rw [hn]
      have hnot : (ns[k] : Nd).parts.contains x = false := by
        refine Bool.eq_false_iff.mpr fun z => ?_
        have hm : x ∈ (ns[k] : Nd).parts := by simpa using z
        have := parts_lt (ok.2 k _ hn) x hm
        omega
      show (m x || (ns[k] : Nd).parts.contains x) = m x
      rw [hnot, Bool.or_false]
    · rfl
theorem markDown_parts {boxed : Bool} {ns : List Nd} (ok : okSheet boxed ns) : ∀ (k : Nat) (m : Nat → Bool) (i : Nat) (n : Nd), k ≤ ns.length → i < k → ns[i]? = some n → markDown ns k m i = true → ∀ p ∈ n.parts, markDown ns k m p = true
  | 0, m, i, n, _, hi, _, _ => by omega
  | k + 1, m, i, n, hk, hi, hn, h => by
    intro p hp
    unfold markDown at h ⊢
    rcases Nat.lt_or_ge i k with hlt | hge
    · exact markDown_parts ok k _ i n (by omega) hlt hn h p hp
    · have e : i = k := by omega
      subst e
      rw [markDown_above ok i _ i (by omega) (by omega)] at h
      have hmi : m i = true := by
        cases q : m i with
        | true => rfl
        | false =>
          rw [q, if_neg Bool.false_ne_true, q] at h
          exact h
      rw [if_pos hmi]
      refine markDown_keep ns i _ p ?_
      rw [hn]
      exact markP_new hp
def marked (ns : List Nd) (rows : List Nat) : Nat → Bool := markDown ns ns.length (markP (fun _ => false) rows)
def belowF (ns : List Nd) (rows : List Nat) : List Nat := (List.range ns.length).filter (marked ns rows)
theorem below_mem {ns : List Nd} {rows : List Nat} {i : Nat} : i ∈ belowF ns rows ↔ i < ns.length ∧ marked ns rows i = true := by
  unfold belowF
  rw [List.mem_filter, List.mem_range]
theorem below_parts {boxed : Bool} {ns : List Nd} {rows : List Nat} (ok : okSheet boxed ns) {i : Nat} {n : Nd} (h : i ∈ belowF ns rows) (hn : ns[i]? = some n) : ∀ p ∈ n.parts, p ∈ belowF ns rows ∧ p < i := fun p hp => by
  obtain ⟨h1, h2⟩ := below_mem.mp h
  have hl := parts_lt (ok.2 i n hn) p hp
  exact ⟨below_mem.mpr ⟨by omega, markDown_parts ok ns.length _ i n (Nat.le_refl _) h1 hn h2 p hp⟩, hl⟩
theorem below_row {ns : List Nd} {rows : List Nat} {r : Nat} (h : r ∈ rows) (hl : r < ns.length) : r ∈ belowF ns rows :=
  below_mem.mpr ⟨hl, markDown_keep ns _ _ _ (markP_new h)⟩
/-! ### the readings -/
inductive W3
  | neg | box | dou
  deriving DecidableEq
def W3.str : W3 → Str
  | .neg => "negative"
  | .box => "boxed"
  | .dou => "doubled"
/-- the node with its parts' new rows -/
def Nd.moved (new : Nat → Nat) : Nd → Nd
  | .bin o j k => .bin o (new j) (new k)
  | .box j => .box (new j)
  | n => n
def stepF (w : W3) (ns : List Nd) (at_ : Nat) (n : Nd) (new : Nat → Nat) : Nat × List Nd :=
  match w, n with
  | _, .no => (at_, ns)
  | .dou, .letter _ => (at_, ns)
  | .neg, .letter _ => denyF (denyF ns at_).2 (denyF ns at_).1
  | .box, .letter _ => rowF ns (.box at_)
  | .neg, .bin .or j k =>
    let a := denyF ns (new j)
    let b := denyF a.2 (new k)
    let c := rowF b.2 (.bin .and a.1 b.1)
    denyF c.2 c.1
  | .box, .bin .imp j k =>
    let a := rowF ns (.bin .imp (new j) (new k))
    rowF a.2 (.box a.1)
  | .dou, .box j =>
    let a := rowF ns (.box (new j))
    rowF a.2 (.bin .and (new j) a.1)
  | _, n => rowF ns (n.moved new)
/-- the rows l, one by one: the grown sheet and what each has become -/
def readF (w : W3) (old : List Nd) : List Nat → List Nd → (Nat → Nat) → List Nd × (Nat → Nat)
  | [], ns, new => (ns, new)
  | i :: l, ns, new =>
    let a := stepF w ns i (old[i]?.getD .no) new
    readF w old l a.2 (fun x => if x = i then a.1 else new x)
end LL

set_option Elab.async false
set_option linter.all false
set_option maxRecDepth 100000
set_option maxHeartbeats 400000
/-! LDx: dicts whose keys are tuples, tracked ones or ones of the written part -/
namespace LL
open PySem PySem.Spec PyProof.Rows L2
variable [KW]
abbrev Ent := List Key × Addr × V
abbrev entKV (p : Ent) : List Key × V := (p.1, p.2.2)
def EntR (p : Ent) (q : List Key × Addr × Value) : Prop := p.1 = q.1 ∧ p.2.1 = q.2.1 ∧ RelV p.2.2 q.2.2
def dxOk (T : Addr) (kas : List Ent) (h : Heap) : Prop := (T == sysModules) = false ∧ kas.length ≤ sizeLine ∧ ∃ xs : List (List Key × Addr × Value), Paired EntR kas xs ∧
  ∃ o es ep, h.get? T = some o ∧ o.ExactDict ∧ o.data = .dict es ep ∧ es.toList = xs.map (fun x => ⟨KW.hs x.1, .ref x.2.1, x.2.2⟩) ∧ (xs.map (·.1)).Nodup
def dxo (T : Addr) (kas : List Ent) : HO := .ext (dxOk T kas)
def putX (kas : List Ent) (k : List Key) (b : Addr) (v : V) : List Ent := if (kas.any fun p => decide (p.1 = k)) = true then kas.map (fun p => if p.1 = k then (p.1, p.2.1, v) else p) else kas ++ [(k, b, v)]
theorem dx_val {kas : List Ent} {xs : List (List Key × Addr × Value)} (r : Paired EntR kas xs) (k : List Key) : RelO (valV (kas.map entKV) k) ((atKey xs k).map (·.2)) := by
  induction r with
  | nil => exact True.intro
  | @cons p q ps qs h t ih =>
    obtain ⟨h1, _, h2⟩ := h
    rw [List.map_cons]
    by_cases e : p.1 = k
    · have e' : q.1 = k := h1.symm.trans e
      have b : atKey (q :: qs) k = some q.2 := by simp [atKey, List.find?_cons, e']
      rw [valV_pos (p := entKV p) e, b]; exact h2
    · have e' : ¬ q.1 = k := fun z => e (h1.trans z)
      have b : atKey (q :: qs) k = atKey qs k := by simp [atKey, List.find?_cons, e']
      rw [valV_neg (p := entKV p) e, b]; exact ih
theorem dx_any {kas : List Ent} {xs : List (List Key × Addr × Value)} (r : Paired EntR kas xs) (k : List Key) : (kas.any fun p => decide (p.1 = k)) = (atKey xs k).isSome := by
  induction r with
  | nil => rfl
  | @cons p q ps qs h t ih =>
    rw [List.any_cons, ih]
    by_cases e : p.1 = k
    · have e' : q.1 = k := h.1.symm.trans e
      have b : atKey (q :: qs) k = some q.2 := by simp [atKey, List.find?_cons, e']
      rw [b, decide_eq_true e]; rfl
    · have e' : ¬ q.1 = k := fun z => e (h.1.trans z)
      have b : atKey (q :: qs) k = atKey qs k := by simp [atKey, List.find?_cons, e']
      rw [b, decide_eq_false e, Bool.false_or]
theorem dx_put {kas : List Ent} {xs : List (List Key × Addr × Value)} (r : Paired EntR kas xs) (k : List Key) (b : Addr) {v : V} {u : Value} (rv : RelV v u) : Paired EntR (putX kas k b v) (storedH xs k b u) := by
  have repl : ∀ {l : List Ent} {m : List (List Key × Addr × Value)}, Paired EntR l m → Paired EntR (l.map fun p => if p.1 = k then (p.1, p.2.1, v) else p) (m.map (putAt k u)) := by
    intro l m q
    induction q with
    | nil => exact .nil
    | @cons p q ps qs h t ih =>
      rw [List.map_cons, List.map_cons]
      refine .cons ?_ ih
      obtain ⟨h1, h2, h3⟩ := h
      unfold putAt
      by_cases e : p.1 = k
      · rw [if_pos e, if_pos (h1.symm.trans e)]; exact ⟨h1, h2, rv⟩
      · rw [if_neg e, if_neg (fun z => e (h1.trans z))]; exact ⟨h1, h2, h3⟩
  unfold putX storedH
  rw [dx_any r k]
  by_cases q : (atKey xs k).isSome = true
  · rw [if_pos q, if_pos q]; exact repl r
  · rw [if_neg q, if_neg q]; exact Paired.snoc r ⟨rfl, rfl, rv⟩
/-- the keys' tuples -/
def KeysAt (K : PySem.W.Frag) (H : Hp) (kas : List Ent) : Prop := ∀ p ∈ kas, SqT K H p.2.1 (p.1.map kV)
/-- what a dict holds at a key -/
def DGX (K : PySem.W.Frag) (H : Hp) (a : Addr) (y : V) (r : Option V) : Prop :=
  ∃ kas k b, H a = some (dxo a kas) ∧ KeysAt K H kas ∧ y = .ref b ∧ SqT K H b (k.map kV) ∧ r = valV (kas.map entKV) k
def DPX (K : PySem.W.Frag) (H : Hp) (a : Addr) (y v : V) (H' : Hp) : Prop :=
  ∃ kas k b, H a = some (dxo a kas) ∧ KeysAt K H kas ∧ y = .ref b ∧ SqT K H b (k.map kV) ∧ kas.length < sizeLine ∧ H' = upd H a (dxo a (putX kas k b v))
section
variable {X : Cx} {w : World} {pins : List (Addr × Obj)} {σ : L2.St} {H : Hp} {s : Shared} {a b : Addr} {y v : V} {u r : Value} {o : Option V} {A : Around} {E : Value → Shared → Prop} {ks : List Key} {kas : List Ent}
theorem key_sq (I : Inv X pins σ H s) (h : SqT X.K H b (ks.map kV)) : (tupleKind (mixKind X.prog X.w)).is s.heap ks b := by
  obtain ⟨its, r, ⟨o, h1, h2, n, h3⟩, _⟩ := I.tuple h
  exact ⟨o, its.toArray, n, h1, h2, h3, by simpa using items_are r⟩
theorem dx_of (W : KWOk X.K X.w) (I : Inv X pins σ H s) (e : H a = some (dxo a kas)) (hk : KeysAt X.K H kas) : (a == sysModules) = false ∧ kas.length ≤ sizeLine ∧
    ∃ xs, Paired EntR kas xs ∧ s.heap.DictOfH (tupleKind (mixKind X.prog X.w)) a xs := by
  obtain ⟨⟨y, z, xs, r, o, es, ep, h1, h2, h3, h4, h5⟩, _, _⟩ := (show ObjOk X.prog X.w H s.heap a (dxo a kas) from I.hok a _ e)
  refine ⟨y, z, xs, r, o, es, ep, h1, h2, h3, ?_, fun x hx => ?_, h5⟩
  · rw [h4]
    refine List.map_congr_left fun x _ => ?_
    unfold entryOfKey
    rw [W.hs X.prog x.1]
  · have all : ∀ {l : List Ent} {m : List (List Key × Addr × Value)}, Paired EntR l m → (∀ p ∈ l, SqT X.K H p.2.1 (p.1.map kV)) → ∀ x ∈ m, (tupleKind (mixKind X.prog X.w)).is s.heap x.1 x.2.1 := by
      intro l m q
      induction q with
      | nil => intro _ x hx; exact nomatch hx
      | @cons p q ps qs hq t ih =>
        intro hp x hx
        rcases List.mem_cons.mp hx with e | hx
        · subst e
          rw [← hq.1, ← hq.2.1]
          exact key_sq I (hp p List.mem_cons_self)
        · exact ih (fun p hp' => hp p (List.mem_cons_of_mem _ hp')) x hx
    exact all r hk x hx
theorem dx_new {h : Heap} {kas : List Ent} {xs : List (List Key × Addr × Value)} {P : Program} {w : World} {H : Hp} (W : ∀ (ks : List Key), KW.hs ks = (tupleKind (mixKind P w)).hash ks) (y : (a == sysModules) = false) (z : kas.length ≤ sizeLine) (r : Paired EntR kas xs) (d : h.DictOfH (tupleKind (mixKind P w)) a xs) :
    ObjOk P w H h a (dxo a kas) := by
  obtain ⟨o, es, ep, h1, h2, h3, h4, _, h5⟩ := d
  refine ⟨⟨y, z, xs, r, o, es, ep, h1, h2, h3, ?_, h5⟩, ⟨o, h1⟩, fun k1 k2 p keep => ?_⟩
  · rw [h4]
    refine List.map_congr_left fun x _ => ?_
    unfold entryOfKey
    rw [W x.1]
  · obtain ⟨y, z, xs, r, o, es, ep, h1, h2⟩ := p
    exact ⟨y, z, xs, r, o, es, ep, keep _ h1, h2⟩
theorem dx_getItem {Q : Value → Shared → Prop} (W : KWOk X.K X.w) (hu : A.units + 1 < cLine) (I : Inv X pins σ H s) (g : DGX X.K H a y (some v)) (ry : RelV y u) (h : ∀ w' s', Inv X pins σ H s' → RelV v w' → Q w' s') :
    wpAny (model X.prog X.w) A (getItem (.ref a) u) Q E s := by
  obtain ⟨kas, k, b, e, hk, ey, eb, l⟩ := g
  subst ey
  cases (show u = Value.ref b from ry)
  obtain ⟨hd, z, xs, rel, dd⟩ := dx_of W I e hk
  obtain ⟨w', hw, rw'⟩ := RelO.some_of (v := v) (o := (atKey xs k).map (·.2)) (by rw [l]; exact dx_val rel k)
  obtain ⟨p, hp, hp2⟩ := Option.map_eq_some_iff.mp hw
  refine wpAny_getItem_heap (tupleKind_room_in1 hu) (key_sq I eb) dd hp ?_
  rw [hp2]
  exact h w' _ (I.tok _) rw'
theorem dx_in {Q : Value → Shared → Prop} (W : KWOk X.K X.w) (hu : A.units + 1 < cLine) (I : Inv X pins σ H s) (g : DGX X.K H a y o) (ry : RelV y u) (h : ∀ s', Inv X pins σ H s' → Q (.bool o.isSome) s') :
    wpAny (model X.prog X.w) A (compareOp .In u (.ref a)) Q E s := by
  obtain ⟨kas, k, b, e, hk, ey, eb, l⟩ := g
  subst ey
  cases (show u = Value.ref b from ry)
  obtain ⟨hd, z, xs, rel, dd⟩ := dx_of W I e hk
  refine wpAny_in_heap (tupleKind_room_in1 hu) (key_sq I eb) hd dd ?_
  have q := (dx_val rel k).isSome_eq
  rw [Option.isSome_map] at q
  rw [← q, ← l]
  exact h _ (I.tok _)
theorem dx_notIn {Q : Value → Shared → Prop} (W : KWOk X.K X.w) (hu : A.units + 1 < cLine) (I : Inv X pins σ H s) (g : DGX X.K H a y o) (ry : RelV y u) (h : ∀ s', Inv X pins σ H s' → Q (.bool (!o.isSome)) s') :
    wpAny (model X.prog X.w) A (compareOp .NotIn u (.ref a)) Q E s := by
  obtain ⟨kas, k, b, e, hk, ey, eb, l⟩ := g
  subst ey
  cases (show u = Value.ref b from ry)
  obtain ⟨hd, z, xs, rel, dd⟩ := dx_of W I e hk
  refine wpAny_notIn_heap (tupleKind_room_in1 hu) (key_sq I eb) hd dd ?_
  have q := (dx_val rel k).isSome_eq
  rw [Option.isSome_map] at q
  rw [← q, ← l]
  exact h _ (I.tok _)
theorem putX_len (kas : List Ent) (k : List Key) (b : Addr) (v : V) : (putX kas k b v).length ≤ kas.length + 1 := by
  unfold putX
  split <;> simp
theorem dx_setItem {H' : Hp} {Q : Unit → Shared → Prop} (W : KWOk X.K X.w) (hu : A.units + 1 < cLine) (I : Inv X pins σ H s) (g : DPX X.K H a y v H') (ry : RelV y u) (rv : RelV v r) (h : ∀ s', Inv X pins σ H' s' → Q () s') :
    wpAny (model X.prog X.w) A (setItem (.ref a) u r) Q E s := by
  obtain ⟨kas, k, b, e, hk, ey, eb, l, eH⟩ := g
  subst ey eH
  cases (show u = Value.ref b from ry)
  obtain ⟨hd, z, xs, rel, dd⟩ := dx_of W I e hk
  have hz : xs.length ≤ sizeLine := by rw [← Paired.length rel]; exact z
  have hl : (putX kas k b v).length ≤ sizeLine := by have := putX_len kas k b v; omega
  refine wpAny_setItem_heap (hsz := hz) (tupleKind_room_in1 hu) (key_sq I eb) dd fun h' dd' hs => h _ ?_
  have he : ∃ q, h'.get? a = some q := let ⟨q, _, _, hq, _⟩ := dd'; ⟨q, hq⟩
  exact d_write I (by rw [e]; exact True.intro) hs he (dx_new (fun ks => W.hs X.prog ks) hd hl (dx_put rel k b rv) dd')
end
def tDGetX (K : PySem.W.Frag) (td ty : TE) : TE := fun σ H Q => td σ H fun x H1 => ty σ H1 fun y H2 => ∃ a v, x = .ref a ∧ DGX K H2 a y (some v) ∧ Q v H2
def tDInX (K : PySem.W.Frag) (ty td : TE) : TE := fun σ H Q => ty σ H fun y H1 => td σ H1 fun x H2 => ∃ a o, x = .ref a ∧ DGX K H2 a y o ∧ Q (.bl o.isSome) H2
def tDNotInX (K : PySem.W.Frag) (ty td : TE) : TE := fun σ H Q => ty σ H fun y H1 => td σ H1 fun x H2 => ∃ a o, x = .ref a ∧ DGX K H2 a y o ∧ Q (.bl (!o.isSome)) H2
def sDPutX (K : PySem.W.Frag) (td ty tv : TE) : TS := fun D σ H => tv σ H fun v H1 => td σ H1 fun x H2 => ty σ H2 fun y H3 => ∃ a H4, x = .ref a ∧ DPX K H3 a y v H4 ∧ D.nx σ H4
def tDNewX : TE := fun _ H Q => ∀ p, H p = none → Q (.ref p) (upd H p (dxo p []))
section
variable {X : Cx} {o i e value : Expr} {pos pos' tpos : Pos} {td ty tv : TE}
theorem dx_typeIs {pins : List (Addr × Obj)} {σ : L2.St} {H : Hp} {s : Shared} {a : Addr} {y : V} {ov : Option V} (I : Inv X pins σ H s) (g : DGX X.K H a y ov) : s.TypeIs (.ref a) "dict" := by
  obtain ⟨kas, k, b, e, _⟩ := g
  obtain ⟨⟨_, _, xs, _, ob, es, ep, h1, h2, _⟩, _⟩ := (show ObjOk X.prog X.w H s.heap a (dxo a kas) from I.hok a _ e)
  exact ⟨ob, h1, h2.1⟩
theorem pe_dgetX (W : KWOk X.K X.w) (hu : X.A.units + 1 < cLine) (ho : PE X o td) (hi : PE X i ty) (hs : NoSl i) : PE X (.Subscript o i pos) (tDGetX X.K td ty) := by
  refine ⟨fun pins s σ H Q I h => ?_⟩
  refine subD_of PySem.F.slot_dict_getitem.lookup hs (thn (ho.run pins s σ H _ I h) fun u s1 ⟨x, H1, I1, rx, q1⟩ => thn (hi.run pins s1 σ H1 _ I1 q1) fun iv s2 ⟨y, H2, I2, ry, a, v, ex, g, q2⟩ => ?_)
  subst ex
  obtain rfl : u = Value.ref a := rx
  exact ⟨dx_typeIs I2 g, dx_getItem W hu I2 g ry fun w' s3 I3 rw' => ⟨v, H2, I3, rw', q2⟩⟩
theorem pc_dinX (W : KWOk X.K X.w) (hu : X.A.units + 1 < cLine) (hi : PE X i ty) (ho : PE X o td) : PC X .In i o (tDInX X.K ty td) := by
  refine ⟨fun pins s σ H Q I h => ?_⟩
  refine thn (hi.run pins s σ H _ I h) fun iv s1 ⟨y, H1, I1, ry, q1⟩ => thn (ho.run pins s1 σ H1 _ I1 q1) fun u s2 ⟨x, H2, I2, rx, a, ov, ex, g, q2⟩ => ?_
  subst ex
  obtain rfl : u = Value.ref a := rx
  exact dx_in W hu I2 g ry fun s3 I3 => ⟨.bl ov.isSome, H2, I3, rfl, q2⟩
theorem pc_dnotinX (W : KWOk X.K X.w) (hu : X.A.units + 1 < cLine) (hi : PE X i ty) (ho : PE X o td) : PC X .NotIn i o (tDNotInX X.K ty td) := by
  refine ⟨fun pins s σ H Q I h => ?_⟩
  refine thn (hi.run pins s σ H _ I h) fun iv s1 ⟨y, H1, I1, ry, q1⟩ => thn (ho.run pins s1 σ H1 _ I1 q1) fun u s2 ⟨x, H2, I2, rx, a, ov, ex, g, q2⟩ => ?_
  subst ex
  obtain rfl : u = Value.ref a := rx
  exact dx_notIn W hu I2 g ry fun s3 I3 => ⟨.bl (!ov.isSome), H2, I3, rfl, q2⟩
theorem ps_dputX (W : KWOk X.K X.w) (hu : X.A.units + 1 < cLine) (ho : PE X o td) (hi : PE X i ty) (hv : PE X value tv) (hs : swapsWith value (some (.Subscript o i pos')) pos.line X.env = pure false) :
    PS X (.Assign [.Subscript o i pos'] value pos) (sDPutX X.K td ty tv) := by
  refine ⟨fun pins s σ H D I h => ?_⟩
  refine wpAny_Assign_Subscript (thn (hv.run pins s σ H _ I h) fun r s1 ⟨v, H1, I1, rv, q1⟩ => thn (ho.run pins s1 σ H1 _ I1 q1) fun u s2 ⟨x, H2, I2, rx, q2⟩ => thn (hi.run pins s2 σ H2 _ I2 q2) fun iv s3 ⟨y, H3, I3, ry, a, H4, ex, g, q3⟩ => ?_) hs
  subst ex
  obtain rfl : u = Value.ref a := rx
  exact dx_setItem W hu I3 g ry rv fun s4 I4 => ⟨σ, H4, I4, q3⟩
theorem pe_dnewX (W : KWOk X.K X.w) : PE X (.Dict [] [] pos) tDNewX := ⟨fun pins s σ H Q I h =>
  wpAny_Dict_empty ⟨.ref s.heap.objs.size, _, I.laid (a := s.heap.objs.size) (o := dxo s.heap.objs.size []) (t' := s.toks) (fun _ _ q => Heap.get?_push_of_some _ q) (Nat.le_refl _)
    (dx_new (xs := []) (fun ks => W.hs X.prog ks) (beq_eq_false_iff_ne.mpr (Ne.symm (Nat.ne_of_lt I.big))) (Nat.zero_le _) .nil ⟨_, #[], 0, Heap.get?_push_size _ rfl, ⟨rfl, rfl, rfl⟩, rfl, rfl, (fun x hx => nomatch hx), List.nodup_nil⟩), rfl, h _ (I.hok.fresh (Nat.le_refl _))⟩⟩
end
end LL

set_option Elab.async false
set_option linter.all false
set_option maxRecDepth 100000
set_option maxHeartbeats 400000
/-! LBkN: a list of nodes and the table of their rows, in the heap -/
namespace LL
open PySem PySem.Spec PyProof.Rows L2
variable [KW]
def tabG : Nat → List Nd → List (List Key × V)
  | _, [] => []
  | k, n :: ns => (n.keys, .int (k : Nat)) :: tabG (k + 1) ns
theorem tab_app : ∀ (k : Nat) (ns ms : List Nd), tabG k (ns ++ ms) = tabG k ns ++ tabG (k + ns.length) ms
  | k, [], ms => by rw [List.nil_append, List.length_nil, Nat.add_zero]; rfl
  | k, n :: ns, ms => by
    rw [List.cons_append, tabG, tab_app (k + 1) ns ms, tabG, List.cons_append, List.length_cons]
    rw [show k + 1 + ns.length = k + (ns.length + 1) from by omega]
theorem tab_len : ∀ (k : Nat) (ns : List Nd), (tabG k ns).length = ns.length
  | _, [] => rfl
  | k, n :: ns => by rw [tabG, List.length_cons, tab_len (k + 1) ns, List.length_cons]
theorem tab_val : ∀ (k : Nat) (ns : List Nd) (n : Nd), valV (tabG k ns) n.keys = if n ∈ ns then some (.int ((k + ns.idxOf n : Nat))) else none
  | k, [], n => by simp [tabG, valV]
  | k, m :: ns, n => by
    unfold tabG
    by_cases e : m = n
    · subst e
      unfold valV
      rw [List.find?_cons]
      simp [List.idxOf_cons]
    · have hk : ¬ m.keys = n.keys := fun z => e (keys_inj z)
      have e2 : (m == n) = false := by simpa using e
      have ih := tab_val (k + 1) ns n
      unfold valV at ih ⊢
      rw [List.find?_cons, decide_eq_false hk]
      show Option.map _ (List.find? _ (tabG (k + 1) ns)) = _
      rw [ih]
      have hm : (n ∈ m :: ns) ↔ n ∈ ns := by
        rw [List.mem_cons]
        exact ⟨fun z => z.resolve_left (fun y => e y.symm), .inr⟩
      by_cases h : n ∈ ns
      · rw [if_pos h, if_pos (hm.mpr h), List.idxOf_cons, e2]
        show some (V.int ((k + 1 + ns.idxOf n : Nat))) = some (V.int ((k + (ns.idxOf n + 1) : Nat)))
        rw [show k + 1 + ns.idxOf n = k + (ns.idxOf n + 1) from by omega]
      · rw [if_neg h, if_neg (fun z => h (hm.mp z))]
/-- a dict at T that holds kvs, its keys' tuples stand -/
structure Tab (M : List Addr) (H : Hp) (T : Addr) (kvs : List (List Key × V)) : Prop where
  ex : ∃ kas : List Ent, H T = some (dxo T kas) ∧ kas.map entKV = kvs ∧ ∀ p ∈ kas, Tp M H p.2.1 (p.1.map kV)
section
variable {M N : List Addr} {H H' : Hp} {T p b : Addr} {kvs : List (List Key × V)} {K : PySem.W.Frag} {w : World} {k : List Key} {v : V}
theorem Tab.adv (x : Tab M H T kvs) (a : Adv N H H') (hT : T ∉ N) (hn : ∀ b ∈ N, b ∈ M) : Tab M H' T kvs := by
  obtain ⟨kas, h1, h2, h3⟩ := x.ex
  exact ⟨⟨kas, a _ _ hT h1, h2, fun q hq => (h3 q hq).adv (a.more hn)⟩⟩
theorem Tab.same (x : Tab M H T kvs) (a : Adv [] H H') : Tab M H' T kvs := x.adv a (by simp) (by simp)
theorem Tab.fresh (x : Tab M H T kvs) (h : H p = none) : Tab (p :: M) H T kvs := by
  obtain ⟨kas, h1, h2, h3⟩ := x.ex
  exact ⟨⟨kas, h1, h2, fun q hq => (h3 q hq).fresh h⟩⟩
theorem Tab.less (x : Tab M H T kvs) (h : ∀ b ∈ N, b ∈ M) : Tab N H T kvs := by
  obtain ⟨kas, h1, h2, h3⟩ := x.ex
  exact ⟨⟨kas, h1, h2, fun q hq => (h3 q hq).less h⟩⟩
theorem Tab.new (h : H T = some (dxo T [])) : Tab M H T [] := ⟨⟨[], h, rfl, fun q hq => nomatch hq⟩⟩
theorem Tab.here (x : Tab M H T kvs) : H T ≠ none := by
  obtain ⟨kas, h1, _⟩ := x.ex
  rw [h1]; simp
theorem Tab.get (W : KWOk K w) (x : Tab M H T kvs) (hb : Tp N H b (k.map kV)) : DGX K H T (.ref b) (valV kvs k) := by
  obtain ⟨kas, h1, h2, h3⟩ := x.ex
  exact ⟨kas, k, b, h1, fun q hq => (h3 q hq).sq W, rfl, hb.sq W, by rw [h2]⟩
theorem putX_map (kas : List Ent) (k : List Key) (b : Addr) (v : V) : (putX kas k b v).map entKV = putK (kas.map entKV) k v := by
  have e : ((kas.map entKV).any fun kv => decide (kv.1 = k)) = kas.any fun p => decide (p.1 = k) := by rw [List.any_map]; rfl
  unfold putX putK
  rw [e]
  split
  · rw [List.map_map, List.map_map]
    refine List.map_congr_left fun q _ => ?_
    show entKV (if q.1 = k then _ else _) = (if (entKV q).1 = k then _ else _)
    by_cases z : q.1 = k
    · rw [if_pos z, if_pos z]
    · rw [if_neg z, if_neg z]
  · rw [List.map_append]; rfl
theorem Tab.put (W : KWOk K w) (x : Tab M H T kvs) (hb : Tp M H b (k.map kV)) (hl : kvs.length < sizeLine) (v : V) :
    ∃ kas' : List Ent, DPX K H T (.ref b) v (upd H T (dxo T kas')) ∧ kas'.map entKV = putK kvs k v ∧ ∀ q ∈ kas', Tp M H q.2.1 (q.1.map kV) := by
  obtain ⟨kas, h1, h2, h3⟩ := x.ex
  refine ⟨putX kas k b v, ⟨kas, k, b, h1, fun q hq => (h3 q hq).sq W, rfl, hb.sq W, by rw [← h2, List.length_map] at hl; exact hl, rfl⟩, by rw [putX_map, h2], fun q hq => ?_⟩
  unfold putX at hq
  split at hq
  · obtain ⟨p', hp', e⟩ := List.mem_map.mp hq
    by_cases z : p'.1 = k
    · rw [if_pos z] at e
      subst e
      exact h3 p' hp'
    · rw [if_neg z] at e
      subst e
      exact h3 p' hp'
  · rcases List.mem_append.mp hq with hq | hq
    · exact h3 q hq
    · rw [List.mem_singleton.mp hq]
      exact hb
/-- the table behind a store: told by its heap -/
theorem Tab.putH (W : KWOk K w) (x : Tab M H T kvs) (mT : T ∈ M) (hb : Tp M H b (k.map kV)) (hl : kvs.length < sizeLine) (v : V) :
    ∃ o : HO, DPX K H T (.ref b) v (upd H T o) ∧ Tab M (upd H T o) T (putK kvs k v) := by
  obtain ⟨kas', g, e, h⟩ := x.put W hb hl v
  exact ⟨_, g, ⟨⟨kas', upd_same, e, fun q hq => (h q hq).adv (Adv.set mT)⟩⟩⟩
end
/-- the list b0 of the nodes ns, the table b1 of their rows -/
structure BkN (M : List Addr) (H : Hp) (b0 b1 : Addr) (ns : List Nd) : Prop where
  rows : ∃ rs, H b0 = some (.lst rs) ∧ IsDs M H (ns.map Nd.data) rs
  tab : Tab M H b1 (tabG 0 ns)
  m0 : b0 ∈ M
  m1 : b1 ∈ M
  ne : b0 ≠ b1
  al : ∀ b ∈ M, H b ≠ none
theorem BkN.adv {M N : List Addr} {H H' : Hp} {b0 b1 : Addr} {ns : List Nd} (x : BkN M H b0 b1 ns) (a : Adv N H H') (h0 : b0 ∉ N) (h1 : b1 ∉ N) (hn : ∀ b ∈ N, b ∈ M) (hal : ∀ b ∈ N, H' b ≠ none) : BkN M H' b0 b1 ns := by
  obtain ⟨⟨rs, e, r⟩, t, m0, m1, ne, al⟩ := x
  exact ⟨⟨rs, a _ _ h0 e, r.adv (a.more hn)⟩, t.adv a h1 hn, m0, m1, ne, alloc_adv al a hal⟩
theorem BkN.same {M : List Addr} {H H' : Hp} {b0 b1 : Addr} {ns : List Nd} (x : BkN M H b0 b1 ns) (a : Adv [] H H') : BkN M H' b0 b1 ns := x.adv a (by simp) (by simp) (by simp) (by simp)
theorem BkN.fresh {M : List Addr} {H : Hp} {b0 b1 p : Addr} {ns : List Nd} (x : BkN M H b0 b1 ns) (h : H p = none) {o : HO} : BkN (p :: M) (upd H p o) b0 b1 ns := by
  have y := x.same (Adv.new (o := o) h)
  obtain ⟨⟨rs, e, r⟩, t, m0, m1, ne, al⟩ := x
  obtain ⟨_, _, _, _, _, al'⟩ := y
  have a : Adv [] H (upd H p o) := Adv.new h
  exact ⟨⟨rs, a.same _ _ e, (r.fresh h).adv (a.more (by simp))⟩, (t.fresh h).same a, by simp [m0], by simp [m1], ne, fun b hb => by
    rcases List.mem_cons.mp hb with z | hb
    · rw [z, upd_same]; simp
    · exact al' b hb⟩
theorem BkN.less {M N : List Addr} {H : Hp} {b0 b1 : Addr} {ns : List Nd} (x : BkN M H b0 b1 ns) (h : ∀ b ∈ N, b ∈ M) (m0 : b0 ∈ N) (m1 : b1 ∈ N) : BkN N H b0 b1 ns := by
  obtain ⟨⟨rs, e, r⟩, t, _, _, ne, al⟩ := x
  exact ⟨⟨rs, e, r.less h⟩, t.less h, m0, m1, ne, fun b hb => al b (h b hb)⟩
theorem ks_of {M : List Addr} {H : Hp} : ∀ (ks : List Key) (ws : List V), IsDs M H (ks.map keyDt) ws → ws = ks.map kV := by
  intro ks
  induction ks with
  | nil => intro ws y; unfold IsDs at y; exact y
  | cons c ks ih =>
    intro ws y
    rw [List.map_cons] at y
    unfold IsDs at y
    obtain ⟨u, r, rfl, h1, h2⟩ := y
    rw [ih r h2]
    cases c with
    | inl i => rw [h1.intE]; rfl
    | inr s => rw [h1.strE]; rfl
theorem nd_is {M : List Addr} {H : Hp} {n : Nd} {v : V} (x : Is M H n.data v) : ∃ a, v = .ref a ∧ Tp M H a (n.keys.map kV) := by
  obtain ⟨a, vs, rfl, ha, hs⟩ := x.tupE
  refine ⟨a, rfl, ?_⟩
  rw [← ks_of _ _ hs]
  exact ha
theorem nd_tp {M : List Addr} {H : Hp} {n : Nd} {a : Addr} (h : Tp M H a (n.keys.map kV)) : Is M H n.data (.ref a) := Is.tp h (ks_data _)
theorem tab_mem (k : Nat) (ns : List Nd) (n : Nd) : memK n.keys ((tabG k ns).map (·.1)) = decide (n ∈ ns) := by
  rw [← val_mem, tab_val]
  by_cases h : n ∈ ns
  · rw [if_pos h, decide_eq_true h]; rfl
  · rw [if_neg h, decide_eq_false h]; rfl
/-- a node is added at the end -/
theorem BkN.push {K : PySem.W.Frag} {w : World} (W : KWOk K w) {M : List Addr} {H : Hp} {b0 b1 a : Addr} {ns : List Nd} {n : Nd} {rs : List V} (x : BkN M H b0 b1 ns) (h0 : H b0 = some (.lst rs)) (ha : Tp M H a (n.keys.map kV)) (hm : n ∉ ns) (hl : ns.length < sizeLine) :
    ∃ o : HO, DPX K H b1 (.ref a) (.int (rs.length : Nat)) (upd H b1 o) ∧ BkN M (upd (upd H b1 o) b0 (.lst (rs ++ [.ref a]))) b0 b1 (ns ++ [n]) := by
  obtain ⟨⟨rs', e, r⟩, t, m0, m1, ne, al⟩ := x
  rw [h0] at e
  cases e
  have hrl := r.len
  rw [List.length_map] at hrl
  obtain ⟨o, g, t2⟩ := t.putH W m1 ha (by rw [tab_len]; exact hl) (.int (rs.length : Nat))
  refine ⟨o, g, ?_⟩
  have a1 : Adv [b0, b1] H (upd H b1 o) := Adv.set (by simp)
  have a2 : Adv [b0] (upd H b1 o) (upd (upd H b1 o) b0 (.lst (rs ++ [.ref a]))) := Adv.set (by simp)
  have aa : Adv [b0, b1] H (upd (upd H b1 o) b0 (.lst (rs ++ [.ref a]))) := a1.trans (a2.more (by simp))
  have mM : ∀ b ∈ [b0, b1], b ∈ M := by simp [m0, m1]
  refine ⟨⟨rs ++ [.ref a], upd_same, ?_⟩, ?_, m0, m1, ne, alloc_adv al aa fun b hb => ?_⟩
  · rw [List.map_append]
    exact (r.adv (aa.more mM)).app (IsDs.one (nd_tp (ha.adv (aa.more mM))))
  · rw [put_new _ _ _ (by rw [tab_mem]; exact decide_eq_false hm)] at t2
    have := t2.adv a2 (by simpa using ne.symm) (by simp [m0])
    rw [tab_app, Nat.zero_add, ← hrl]
    exact this
  · rcases List.mem_cons.mp hb with e | hb
    · rw [e, upd_same]; simp
    · rw [List.mem_singleton.mp hb, upd_ne ne.symm, upd_same]; simp
end LL

set_option Elab.async false
set_option linter.all false
set_option maxRecDepth 100000
set_option maxHeartbeats 400000
/-! LFilt: a filtered comprehension over a range; lists of marks -/
namespace LL
open PySem PySem.Spec PyProof.Rows L2
variable [KW]
def mbV (m : Nat → Bool) (n : Nat) : List V := (List.range n).map fun i => V.bl (m i)
theorem mb_len (m : Nat → Bool) (n : Nat) : (mbV m n).length = n := by unfold mbV; rw [List.length_map, List.length_range]
theorem mb_at {m : Nat → Bool} {n i : Nat} (h : i < n) : (mbV m n)[i]? = some (.bl (m i)) := by
  unfold mbV
  rw [List.getElem?_map, List.getElem?_range h]
  rfl
theorem mb_zero (n : Nat) : (List.replicate n [V.bl false]).flatten = mbV (fun _ => false) n := by
  unfold mbV
  induction n with
  | zero => rfl
  | succ n ih =>
    rw [List.replicate_succ', List.flatten_append, ih, List.range_succ, List.map_append]
    rfl
theorem mb_set {m : Nat → Bool} {n i : Nat} : (mbV m n).set i (.bl true) = mbV (markP m [i]) n := by
  apply List.ext_getElem?
  intro j
  rw [List.getElem?_set]
  by_cases hj : j < n
  · rw [mb_at hj, mb_at hj, mb_len]
    by_cases e : i = j
    · subst e
      rw [if_pos rfl, if_pos hj, markP_new (by simp)]
    · rw [if_neg e]
      have : markP m [i] j = m j := by
        unfold markP
        rw [show [i].contains j = false from by simp; exact fun z => e z.symm, Bool.or_false]
      rw [this]
  · have l1 : (mbV m n)[j]? = none := List.getElem?_eq_none (by rw [mb_len]; omega)
    have l2 : (mbV (markP m [i]) n)[j]? = none := List.getElem?_eq_none (by rw [mb_len]; omega)
    rw [l1, l2, mb_len]
    split
    · split
      · omega
      · rfl
    · rfl
theorem markP_snoc (m : Nat → Bool) (ps : List Nat) (p : Nat) : markP (markP m ps) [p] = markP m (ps ++ [p]) := by
  funext x
  unfold markP
  rw [List.contains_append, Bool.or_assoc]
theorem markP_nil (m : Nat → Bool) : markP m [] = m := by
  funext x
  unfold markP
  simp
section
variable {g : TG} {te : TE} {vs : List Nat} {σ : L2.St} {H1 : Hp} {D : Addr} {Qd : Hp → Prop}
theorem lc_filtR {n : Nat} {tt : TT} (ys : Nat → V) (c : Nat → Bool) (hD : H1 D = none) (hz : n ≤ 1000000)
    (hs : ∀ (i : Nat) (H : Hp) (acc : List V) (R : V → Hp → Prop) (R0 : Hp → Prop), i < n → Adv [] H1 H → H D = some (.lst acc) → (c i = true → ∀ H4, H4 D = some (.lst acc) → Adv [] H1 H4 → R (ys i) H4) →
      (c i = false → ∀ H4, H4 D = some (.lst acc) → Adv [] H1 H4 → R0 H4) → g (.int (0 + (i : Nat))) (wipe σ vs) H fun σ2 H2 => wipe σ2 vs = wipe σ vs ∧ tt σ2 H2 fun b H3 => if b = true then te σ2 H3 R else R0 H3)
    (hd : ∀ H, Adv [] H1 H → H D = some (.lst (((List.range n).filter c).map ys)) → Qd H) :
    ∃ W : Nat → Nat → Hp → Prop, (∃ m, W 0 m (upd H1 D (.lst []))) ∧ ∀ i m H, W i m H →
      ((Itr 0 n).stop i H ∧ Qd H) ∨ ((Itr 0 n).go i H ∧ ∃ Nx : Hp → Prop, (∀ H', Nx H' → ∃ m', m' < m ∧ W (i + 1) m' H') ∧ ∀ x H', (Itr 0 n).yld i H x H' → g x (wipe σ vs) H' fun σ2 H2 => wipe σ2 vs = wipe σ vs ∧ tt σ2 H2 fun b H3 =>
        if b = true then te σ2 H3 fun y H4 => ∃ acc, H4 D = some (.lst acc) ∧ acc.length < sizeLine ∧ Nx (upd H4 D (.lst (acc ++ [y]))) else Nx H3) := by
  refine lc_range (lo := 0) (n := n) (tt := tt) (fun i H => Adv [] H1 H ∧ H D = some (.lst (((List.range i).filter c).map ys))) ⟨Adv.new hD, upd_same⟩ (fun i H hi p => ?_) (fun H p => hd H p.1 p.2)
  refine hs i H _ (fun y H4 => ∃ acc, H4 D = some (.lst acc) ∧ acc.length < sizeLine ∧ Adv [] H1 (upd H4 D (.lst (acc ++ [y]))) ∧ (upd H4 D (.lst (acc ++ [y]))) D = some (.lst (((List.range (i + 1)).filter c).map ys)))
    (fun H3 => Adv [] H1 H3 ∧ H3 D = some (.lst (((List.range (i + 1)).filter c).map ys))) hi p.1 p.2 (fun hc H4 e4 a4 => ⟨_, e4, ?_, Adv.mut a4 hD, ?_⟩) (fun hc H4 e4 a4 => ⟨a4, ?_⟩)
  · have h1 := List.length_filter_le c (List.range i)
    rw [List.length_range] at h1
    rw [List.length_map, sizeLine_eq]
    omega
  · rw [upd_same, range_filt_succ, if_pos hc]
  · rw [e4, range_filt_succ, if_neg (by rw [hc]; decide), List.append_nil]
end
end LL

set_option Elab.async false
set_option linter.all false
set_option maxRecDepth 100000
set_option maxHeartbeats 400000
/-! LNew: a dict from rows to rows -/
namespace LL
open PySem PySem.Spec PyProof.Rows L2
variable [KW]
def newT (l : List Nat) (f : Nat → Nat) : List (Key × V) := l.map fun (i : Nat) => (Sum.inl ((i : Nat) : Int), V.int ((f i : Nat) : Int))
theorem new_val (f : Nat → Nat) : ∀ (l : List Nat) (i : Nat), valV (newT l f) (Sum.inl (i : Int)) = if i ∈ l then some (.int (f i : Nat)) else none
  | [], i => by simp [newT, valV]
  | j :: l, i => by
    unfold newT valV
    rw [List.map_cons, List.find?_cons]
    by_cases e : j = i
    · subst e
      simp
    · have hk : ¬ (Sum.inl (j : Int) : Key) = Sum.inl (i : Int) := fun z => e (by have := Sum.inl.inj z; omega)
      rw [decide_eq_false hk]
      have ih := new_val f l i
      unfold newT valV at ih
      show Option.map _ (List.find? _ (l.map _)) = _
      rw [ih]
      have hm : i ∈ j :: l ↔ i ∈ l := by
        rw [List.mem_cons]
        exact ⟨fun z => z.resolve_left (fun y => e y.symm), .inr⟩
      by_cases h : i ∈ l
      · rw [if_pos h, if_pos (hm.mpr h)]
      · rw [if_neg h, if_neg (fun z => h (hm.mp z))]
theorem new_put {l : List Nat} {f : Nat → Nat} {i r : Nat} (h : i ∉ l) : putK (newT l f) (Sum.inl (i : Int)) (.int (r : Nat)) = newT (l ++ [i]) (fun x => if x = i then r else f x) := by
  have hno : ((newT l f).any fun kv => decide (kv.1 = Sum.inl (i : Int))) = false := by
    refine Bool.eq_false_iff.mpr fun z => ?_
    rw [List.any_eq_true] at z
    obtain ⟨p, hp, e⟩ := z
    unfold newT at hp
    obtain ⟨j, hj, rfl⟩ := List.mem_map.mp hp
    have e' := Sum.inl.inj (of_decide_eq_true e)
    have : j = i := by omega
    exact h (this ▸ hj)
  unfold putK
  rw [hno, if_neg Bool.false_ne_true]
  unfold newT
  rw [List.map_append]
  congr 1
  · apply List.map_congr_left
    intro x hx
    have hne : x ≠ i := fun z => h (by rw [← z]; exact hx)
    simp [hne]
  · simp
end LL

set_option Elab.async false
set_option linter.all false
set_option maxRecDepth 100000
set_option maxHeartbeats 400000
/-! LStep: what a step of a reading keeps -/
namespace LL
open PySem PySem.Spec PyProof.Rows L2
variable [KW]
theorem rowF_len (ns : List Nd) (n : Nd) : (rowF ns n).2.length ≤ ns.length + 1 := by
  unfold rowF
  split <;> simp
theorem denyF_pre (ns : List Nd) (r : Nat) : ns <+: (denyF ns r).2 := by
  unfold denyF
  exact (rowF_pre _ _).trans (rowF_pre _ _)
theorem denyF_len (ns : List Nd) (r : Nat) : (denyF ns r).2.length ≤ ns.length + 2 := by
  unfold denyF
  have h1 := rowF_len ns .no
  have h2 := rowF_len (rowF ns .no).2 (.bin .imp r (rowF ns .no).1)
  omega
theorem stepF_pre (w : W3) (ns : List Nd) (i : Nat) (n : Nd) (f : Nat → Nat) : ns <+: (stepF w ns i n f).2 := by
  unfold stepF
  split
  · exact List.prefix_refl _
  · exact List.prefix_refl _
  · exact (denyF_pre _ _).trans (denyF_pre _ _)
  · exact rowF_pre _ _
  · exact (((denyF_pre _ _).trans (denyF_pre _ _)).trans (rowF_pre _ _)).trans (denyF_pre _ _)
  · exact (rowF_pre _ _).trans (rowF_pre _ _)
  · exact (rowF_pre _ _).trans (rowF_pre _ _)
  · exact rowF_pre _ _
theorem stepF_len (w : W3) (ns : List Nd) (i : Nat) (n : Nd) (f : Nat → Nat) : (stepF w ns i n f).2.length ≤ ns.length + 8 := by
  unfold stepF
  split
  · simp
  · simp
  · have h1 := denyF_len ns i
    have h2 := denyF_len (denyF ns i).2 (denyF ns i).1
    omega
  · have := rowF_len ns (.box i)
    omega
  · rename_i j k
    have h1 := denyF_len ns (f j)
    have h2 := denyF_len (denyF ns (f j)).2 (f k)
    have h3 := rowF_len (denyF (denyF ns (f j)).2 (f k)).2 (.bin .and (denyF ns (f j)).1 (denyF (denyF ns (f j)).2 (f k)).1)
    have h4 := denyF_len (rowF (denyF (denyF ns (f j)).2 (f k)).2 (.bin .and (denyF ns (f j)).1 (denyF (denyF ns (f j)).2 (f k)).1)).2 (rowF (denyF (denyF ns (f j)).2 (f k)).2 (.bin .and (denyF ns (f j)).1 (denyF (denyF ns (f j)).2 (f k)).1)).1
    show (denyF _ _).2.length ≤ _
    omega
  · rename_i j k
    have h1 := rowF_len ns (.bin .imp (f j) (f k))
    have h2 := rowF_len (rowF ns (.bin .imp (f j) (f k))).2 (.box (rowF ns (.bin .imp (f j) (f k))).1)
    show (rowF _ _).2.length ≤ _
    omega
  · rename_i j
    have h1 := rowF_len ns (.box (f j))
    have h2 := rowF_len (rowF ns (.box (f j))).2 (.bin .and (f j) (rowF ns (.box (f j))).1)
    show (rowF _ _).2.length ≤ _
    omega
  · have := rowF_len ns (n.moved f)
    omega
theorem readF_snoc (w : W3) (old : List Nd) : ∀ (l : List Nat) (i : Nat) (ns : List Nd) (f : Nat → Nat),
    readF w old (l ++ [i]) ns f = ((stepF w (readF w old l ns f).1 i (old[i]?.getD .no) (readF w old l ns f).2).2, fun x => if x = i then (stepF w (readF w old l ns f).1 i (old[i]?.getD .no) (readF w old l ns f).2).1 else (readF w old l ns f).2 x)
  | [], i, ns, f => rfl
  | j :: l, i, ns, f => readF_snoc w old l i _ _
theorem readF_pre (w : W3) (old : List Nd) : ∀ (l : List Nat) (ns : List Nd) (f : Nat → Nat), ns <+: (readF w old l ns f).1
  | [], ns, f => List.prefix_refl _
  | j :: l, ns, f => (stepF_pre w ns j _ f).trans (readF_pre w old l _ _)
theorem readF_len (w : W3) (old : List Nd) : ∀ (l : List Nat) (ns : List Nd) (f : Nat → Nat), (readF w old l ns f).1.length ≤ ns.length + 8 * l.length
  | [], ns, f => by simp [readF]
  | j :: l, ns, f => by
    have h1 := stepF_len w ns j (old[j]?.getD .no) f
    have h2 := readF_len w old l (stepF w ns j (old[j]?.getD .no) f).2 (fun x => if x = j then (stepF w ns j (old[j]?.getD .no) f).1 else f x)
    show (readF w old l _ _).1.length ≤ _
    rw [List.length_cons]
    omega
theorem below_take {ns : List Nd} {rows : List Nat} {i r p : Nat} (hr : (belowF ns rows)[i]? = some r) (hp : p ∈ belowF ns rows) (hl : p < r) : p ∈ (belowF ns rows).take i := by
  have hs : (belowF ns rows).Pairwise (· < ·) := List.Pairwise.filter _ List.pairwise_lt_range
  obtain ⟨hi, e⟩ := List.getElem?_eq_some_iff.mp hr
  obtain ⟨j, hj, ej⟩ := List.getElem_of_mem hp
  rcases Nat.lt_or_ge j i with h | h
  · rw [← ej]
    exact List.mem_take_iff_getElem.mpr ⟨j, by omega, rfl⟩
  · rcases Nat.lt_or_eq_of_le h with h | h
    · have := List.pairwise_iff_getElem.mp hs i j hi hj h
      omega
    · subst h
      omega
theorem below_notin {ns : List Nd} {rows : List Nat} {i r : Nat} (hr : (belowF ns rows)[i]? = some r) : r ∉ (belowF ns rows).take i := fun z => by
  have hs : (belowF ns rows).Pairwise (· < ·) := List.Pairwise.filter _ List.pairwise_lt_range
  obtain ⟨hi, e⟩ := List.getElem?_eq_some_iff.mp hr
  obtain ⟨j, hj, ej⟩ := List.getElem_of_mem z
  rw [List.length_take] at hj
  rw [List.getElem_take] at ej
  have := List.pairwise_iff_getElem.mp hs j i (by omega) hi (by omega)
  omega
end LL

set_option Elab.async false
set_option linter.all false
set_option maxRecDepth 100000
set_option maxHeartbeats 400000
/-! LRd: the readings of the constructs as lemmas by their heads, for a reading step by step -/
namespace LL
open PySem PySem.Spec PyProof.Rows L2
variable [KW]
section
variable {σ : L2.St} {H : Hp} {Q : VK} {B : Bool → Hp → Prop} {v x y : V} {ta tb te : TE} {K : PySem.W.Frag} {u t s : TS} {D : Ends} {N : L2.St → Hp → Prop}
theorem rd_var {i : Nat} (h : σ[i]? = some (some v)) (q : Q v H) : tVar i σ H Q := ⟨v, h, q⟩
theorem rd_c (q : Q v H) : tC v σ H Q := q
theorem rd_op {r : R2} (q : ta σ H fun x H1 => tb σ H1 fun y H2 => r x y H2 Q) : tOp r ta tb σ H Q := q
theorem rd_un {r : V → Hp → VK → Prop} (q : ta σ H fun x H1 => r x H1 Q) : tUn r ta σ H Q := q
theorem rd_eq (h : scal x y = true) (q : Q (.bl (decide (x = y))) H) : rEq x y H Q := ⟨h, q⟩
theorem rd_ne (h : scal x y = true) (q : Q (.bl (!decide (x = y))) H) : rNe x y H Q := ⟨h, q⟩
theorem rd_add {i j : Int} (q : Q (.int (i + j)) H) : rAdd (.int i) (.int j) H Q := ⟨i, j, rfl, rfl, q⟩
theorem rd_sub {i j : Int} (q : Q (.int (i - j)) H) : rSub (.int i) (.int j) H Q := ⟨i, j, rfl, rfl, q⟩
theorem rd_i0 {g : Int → Int → V} {i j : Int} (q : Q (g i j) H) : rI0 g (.int i) (.int j) H Q := ⟨i, j, rfl, rfl, q⟩
theorem rd_i {C : Int → Int → Prop} {g : Int → Int → V} {i j : Int} (h : C i j) (q : Q (g i j) H) : rI C g (.int i) (.int j) H Q := ⟨i, j, rfl, rfl, h, q⟩
theorem rd_isN (q : ta σ H fun x H1 => Q (.bl (decide (x = .non))) H1) : tIsN ta σ H Q := q
theorem rd_notN (q : ta σ H fun x H1 => Q (.bl (!decide (x = .non))) H1) : tNotN ta σ H Q := q
theorem rd_test (q : te σ H fun x H' => ∃ k, x = .bl k ∧ B k H') : tTest te σ H B := q
theorem rd_tB (q : te σ H fun x H' => ∃ k, x = .bl k ∧ B k H') : tB te σ H B := q
theorem rd_bl {k : Bool} (q : B k H) : ∃ c, V.bl k = .bl c ∧ B c H := ⟨k, rfl, q⟩
theorem rd_blP {k : Bool} {P : Bool → Prop} (q : P k) : ∃ c, V.bl k = .bl c ∧ P c := ⟨k, rfl, q⟩
theorem rd_and {a b : TT} (q : a σ H fun c H1 => if c = true then b σ H1 B else B false H1) : tAnd a b σ H B := q
theorem rd_or {a b : TT} (q : a σ H fun c H1 => if c = true then B true H1 else b σ H1 B) : tOr a b σ H B := q
theorem rd_not {a : TT} (q : a σ H fun c H1 => B (!c) H1) : tNot a σ H B := q
theorem rd_andV (q : ta σ H fun x H1 => ∃ c, x = .bl c ∧ if c = true then tb σ H1 Q else Q (.bl false) H1) : tAndV ta tb σ H Q := q
theorem rd_orV (q : ta σ H fun x H1 => ∃ c, x = .bl c ∧ if c = true then Q (.bl true) H1 else tb σ H1 Q) : tOrV ta tb σ H Q := q
theorem rd_notV (q : ta σ H fun x H1 => ∃ c, x = .bl c ∧ Q (.bl (!c)) H1) : tNotV ta σ H Q := q
theorem rd_ifE {c : TT} (q : c σ H fun b H1 => if b = true then ta σ H1 Q else tb σ H1 Q) : tIf c ta tb σ H Q := q
/-! statements -/
theorem rd_seq (q : t { D with nx := u D } σ H) : tSeq t u D σ H := q
theorem rd_nx {r : VK} {b c : L2.St → Hp → Prop} (q : N σ H) : tNext ⟨N, r, b, c⟩ σ H := q
theorem rd_ret (q : te σ H D.rt) : tRet te D σ H := q
theorem rd_retN (q : D.rt .non H) : tRetN D σ H := q
theorem rd_drop (q : te σ H fun _ H1 => D.nx σ H1) : tDrop te D σ H := q
theorem rd_asg {g : TG} (q : te σ H fun x H1 => g x σ H1 D.nx) : tAsg te g D σ H := q
theorem rd_gname {i : Nat} (q : N (σ.set i (some v)) H) : gName i v σ H N := q
theorem rd_gsub {i : TE} {f : TSet} (q : ta σ H fun o H1 => i σ H1 fun i H2 => f o i v H2 fun H3 => N σ H3) : gSub ta i f v σ H N := q
theorem rd_gtup {g : TGs} {a : Addr} {n : Nat} {xs : List V} (h : SqT K H a xs) (hl : xs.length = n) (q : g xs σ H N) : gTup K n g (.ref a) σ H N := ⟨a, xs, rfl, h, hl, q⟩
theorem rd_gcons {g : TG} {g' : TGs} {r : List V} (q : g v σ H fun σ' H' => g' r σ' H' N) : gCons g g' (v :: r) σ H N := ⟨v, r, rfl, q⟩
theorem rd_gnil (q : N σ H) : gNil [] σ H N := ⟨rfl, q⟩
theorem rd_ifS {c : TT} (q : c σ H fun b H1 => if b = true then t D σ H1 else u D σ H1) : tIfS c t u D σ H := q
theorem rd_par {i j : Nat} {tt : TA} (q : tt σ H fun vs H1 => ∃ v w, vs = [v, w] ∧ D.nx ((σ.set i (some v)).set j (some w)) H1) : tPar i j tt D σ H := q
theorem rd_two {P : V → V → Prop} (q : P v x) : ∃ a b, [v, x] = [a, b] ∧ P a b := ⟨v, x, rfl, q⟩
theorem rd_par3 {i j l : Nat} {tt : TA} (q : tt σ H fun vs H1 => ∃ u v w, vs = [u, v, w] ∧ D.nx (((σ.set i (some u)).set j (some v)).set l (some w)) H1) : tPar3 i j l tt D σ H := q
theorem rd_three {z : V} {P : V → V → V → Prop} (q : P v x z) : ∃ a b c, [v, x, z] = [a, b, c] ∧ P a b c := ⟨v, x, z, rfl, q⟩
theorem rd_int1 {P : Int → Prop} {R : Prop} {i : Int} (q : P i) : (∃ j, [V.int i] = [V.int j] ∧ P j) ∨ R := .inl ⟨i, rfl, q⟩
theorem rd_for {wi : TI} {g : TG} {tb : TS} (q : wi σ H fun J H1 => ∃ W : Nat → Nat → L2.St → Hp → Prop, (∃ m, W 0 m σ H1) ∧ ∀ i m σ H, W i m σ H →
    (J.stop i H ∧ D.nx σ H) ∨ (J.go i H ∧ ∃ N : L2.St → Hp → Prop, (∀ σ' H', N σ' H' → ∃ m', m' < m ∧ W (i + 1) m' σ' H') ∧ ∀ x H', J.yld i H x H' → g x σ H' fun σ2 H2 => tb { D with nx := N, ct := N, bk := D.nx } σ2 H2)) : tFor wi g tb D σ H := q
theorem rd_rng1 {ta : TA} {R : It → Hp → Prop} (q : ta σ H fun vs H1 => ∃ j : Int, vs = [.int j] ∧ -(2 ^ 62) ≤ j ∧ j < 2 ^ 62 ∧ R (Itr 0 j.toNat) H1) : iRng1 ta σ H R := q
theorem rd_rng2 {ta : TA} {R : It → Hp → Prop} (q : ta σ H fun vs H1 => ∃ i j : Int, vs = [.int i, .int j] ∧ (-(2 ^ 62) ≤ i ∧ i < 2 ^ 62 ∧ -(2 ^ 62) ≤ j ∧ j < 2 ^ 62) ∧ R (Itr i (j - i).toNat) H1) : iRng2 ta σ H R := q
theorem rd_ints1 {P : Int → Prop} {i : Int} (q : P i) : ∃ j, [V.int i] = [V.int j] ∧ P j := ⟨i, rfl, q⟩
theorem rd_ints2 {P : Int → Int → Prop} {i j : Int} (q : P i j) : ∃ a b, [V.int i, V.int j] = [V.int a, V.int b] ∧ P a b := ⟨i, j, rfl, q⟩
/-! arguments, displays -/
theorem rd_nil {A : List V → Hp → Prop} (q : A [] H) : tNil σ H A := q
theorem rd_cons {tr : TA} {A : List V → Hp → Prop} (q : ta σ H fun x H1 => tr σ H1 fun xs H2 => A (x :: xs) H2) : tCons ta tr σ H A := q
theorem rd_tup {tt : TA} (q : tt σ H fun xs H1 => xs.length ≤ sizeLine ∧ ∀ p, H1 p = none → Q (.ref p) (upd H1 p (.tup xs))) : tTup tt σ H Q := q
theorem rd_lst {tt : TA} (q : tt σ H fun xs H1 => xs.length ≤ sizeLine ∧ ∀ p, H1 p = none → Q (.ref p) (upd H1 p (.lst xs))) : tLst tt σ H Q := q
theorem rd_call {sp : Sp} {dvs : List V} {E : XK} {tt : TA} (q : tt σ H fun vs H1 => sp (vs ++ dvs) H1 Q E) : tCall sp dvs E tt σ H Q := q
theorem rd_make {C : Addr} {sp : Sp} {dvs : List V} {E : XK} {tt : TA} (q : tt σ H fun vs H1 => ∀ x dx, H1 x = none → H1 dx = none → dx ≠ x → sp (.ref x :: (vs ++ dvs)) (upd (upd H1 dx (.own x)) x (.ins C dx [])) (fun v H2 => v = .non ∧ Q (.ref x) H2) E) : tMake C sp dvs E tt σ H Q := q
theorem rd_callS {sp : Sp} {E : L2.St → XK} {tt : TA} (q : tt σ H fun vs H1 => sp vs H1 Q (E σ)) : tCallS sp E tt σ H Q := q
theorem rd_cb {r : List V → Hp → VK → Prop} {tt : TA} (q : tt σ H fun vs H1 => r vs H1 Q) : tCB r tt σ H Q := q
theorem rd_meth {C : Addr} {m : Str} {sp : Sp} {dvs : List V} {E : XK} {tt : TA} (q : ta σ H fun x H1 => ∃ a dx fs, x = .ref a ∧ H1 a = some (.ins C dx fs) ∧ fs.lookup m = none ∧ tt σ H1 fun vs H2 => sp (x :: (vs ++ dvs)) H2 Q E) : tMeth C m sp dvs E ta tt σ H Q := q
theorem rd_methA {C a dx : Addr} {fs : List (Str × V)} {m : Str} {T : Prop} (h : H a = some (.ins C dx fs)) (hm : fs.lookup m = none) (q : T) : ∃ a' dx' fs', V.ref a = .ref a' ∧ H a' = some (.ins C dx' fs') ∧ fs'.lookup m = none ∧ T := ⟨a, dx, fs, rfl, h, hm, q⟩
theorem rd_fld {f : Str} (q : ta σ H fun x H1 => ∃ a C dx fs v, x = .ref a ∧ H1 a = some (.ins C dx fs) ∧ Cls K C ∧ NoAttr K C f ∧ fs.lookup f = some v ∧ Q v H1) : tFld K ta f σ H Q := q
theorem rd_fldA {f : Str} {a C dx : Addr} {fs : List (Str × V)} (h : H a = some (.ins C dx fs)) (hc : Cls K C) (hn : NoAttr K C f) (hl : fs.lookup f = some v) {P : V → Prop} (q : P v) :
    ∃ a' C' dx' fs' v', V.ref a = .ref a' ∧ H a' = some (.ins C' dx' fs') ∧ Cls K C' ∧ NoAttr K C' f ∧ fs'.lookup f = some v' ∧ P v' := ⟨a, C, dx, fs, v, rfl, h, hc, hn, hl, q⟩
theorem rd_part {Z : Option Int → Hp → Prop} (q : te σ H fun x H1 => ∃ i, x = .int i ∧ Z (some i) H1) : tPart te σ H Z := q
theorem rd_nopart {Z : Option Int → Hp → Prop} (q : Z none H) : tNoPart σ H Z := q
theorem rd_int {P : Int → Prop} {i : Int} (q : P i) : ∃ j, V.int i = .int j ∧ P j := ⟨i, rfl, q⟩
theorem rd_sl {r : V → Option Int → Option Int → Hp → VK → Prop} {tl th : TO} (q : te σ H fun x H1 => tl σ H1 fun l H2 => th σ H2 fun u H3 => r x l u H3 Q) : tSl r te tl th σ H Q := q
theorem rd_bm {T : String} {r : V → List V → Hp → VK → Prop} {tt : TA} (q : te σ H fun x H1 => tyV K T x H1 ∧ tt σ H1 fun xs H2 => r x xs H2 Q) : tBM K T r te tt σ H Q := q
theorem rd_bm0 {T : String} {r : V → List V → Hp → VK → Prop} (q : te σ H fun x H1 => tyV K T x H1 ∧ r x [] H1 Q) : tBM0 K T r te σ H Q := q
theorem rd_tyL {a : Addr} {xs : List V} {T : Prop} (h : H a = some (.lst xs)) (q : T) : tyV K "list" (.ref a) H ∧ T := ⟨.inl ⟨rfl, _, SqL.of h⟩, q⟩
/-! readings of the heap -/
theorem rd_slL {a : Addr} {xs : List V} {lo hi : Option Int} (h : H a = some (.lst xs)) (q : ∀ p, H p = none → Q (.ref p) (upd H p (.lst (cutV xs lo hi)))) : rSlL K (.ref a) lo hi H Q := ⟨a, xs, rfl, SqL.of h, q⟩
theorem rd_cat {l b : Addr} {xs zs : List V} (h : H l = some (.lst xs)) (h2 : H b = some (.lst zs)) (hl : xs.length + zs.length ≤ sizeLine) (q : ∀ p, H p = none → Q (.ref p) (upd H p (.lst (xs ++ zs)))) : rCat (.ref l) (.ref b) H Q := ⟨l, b, xs, zs, rfl, rfl, h, h2, hl, q⟩
theorem rd_u {g : Int → V} {i : Int} (q : Q (g i) H) : rU g (.int i) H Q := ⟨i, rfl, q⟩
theorem rd_ixL {p : Addr} {xs : List V} {i : Int} (h : H p = some (.lst xs)) (e : atI xs i = some v) (q : Q v H) : rIxL K (.ref p) (.int i) H Q := ⟨p, xs, i, v, rfl, rfl, SqL.of h, e, q⟩
theorem rd_ixT {p : Addr} {xs : List V} {i : Int} (h : SqT K H p xs) (e : atI xs i = some v) (q : Q v H) : rIxT K (.ref p) (.int i) H Q := ⟨p, xs, i, v, rfl, rfl, h, e, q⟩
theorem rd_lenT {xs : List V} {p : Addr} {P : List V → Prop} (h : SqT K H p xs) (q : P xs) : ∃ (p' : Addr) (xs' : List V), [V.ref p] = [V.ref p'] ∧ (SqL K H p' xs' ∨ SqT K H p' xs') ∧ P xs' := ⟨p, xs, rfl, .inr h, q⟩
theorem rd_len {xs : List V} {p : Addr} {P : List V → Prop} (h : H p = some (.lst xs)) (q : P xs) : ∃ (p' : Addr) (xs' : List V), [V.ref p] = [V.ref p'] ∧ (SqL K H p' xs' ∨ SqT K H p' xs') ∧ P xs' := ⟨p, xs, rfl, .inl (SqL.of h), q⟩
theorem rd_app {l : Addr} {xs : List V} (h : H l = some (.lst xs)) (hl : xs.length < sizeLine) (q : Q .non (upd H l (.lst (xs ++ [y])))) : rAppend (.ref l) [y] H Q := ⟨l, xs, y, rfl, rfl, h, hl, q⟩
theorem rd_slT {a : Addr} {xs : List V} {lo hi : Option Int} (h : H a = some (.tup xs)) : rSlT K (.ref a) lo hi H Q ↔ rSlT K (.ref a) lo hi H Q := Iff.rfl
theorem rd_dgetT {td ty : TE} (q : td σ H fun x H1 => ty σ H1 fun y H2 => ∃ a v, x = .ref a ∧ DGet H2 a y (some v) ∧ Q v H2) : tDGet td ty σ H Q := q
theorem rd_dget {a : Addr} {P : V → Prop} (h : DGet H a y (some v)) (q : P v) : ∃ a' v', V.ref a = .ref a' ∧ DGet H a' y (some v') ∧ P v' := ⟨a, v, rfl, h, q⟩
theorem rd_dgx {a : Addr} {P : V → Prop} (h : DGX K H a y (some v)) (q : P v) : ∃ a' v', V.ref a = .ref a' ∧ DGX K H a' y (some v') ∧ P v' := ⟨a, v, rfl, h, q⟩
theorem rd_din {td ty : TE} (q : ty σ H fun y H1 => td σ H1 fun x H2 => ∃ a o, x = .ref a ∧ DGet H2 a y o ∧ Q (.bl o.isSome) H2) : tDIn ty td σ H Q := q
theorem rd_dnin {td ty : TE} (q : ty σ H fun y H1 => td σ H1 fun x H2 => ∃ a o, x = .ref a ∧ DGet H2 a y o ∧ Q (.bl (!o.isSome)) H2) : tDNotIn ty td σ H Q := q
end
theorem rd_rfl {α : Type} {x : α} {T : Prop} (q : T) : x = x ∧ T := ⟨rfl, q⟩
theorem Adv.get' {M : List Addr} {H H' : Hp} {p : Addr} {o : HO} (a : Adv M H H') (e : H p = some o) (hp : p ∉ M) : H' p = some o := a p o hp e
theorem notin2 {a b c : Addr} (h : a ≠ b) (h' : a ≠ c) : a ∉ [b, c] := by simp [h, h']
theorem notin1 {a b : Addr} (h : a ≠ b) : a ∉ [b] := by simp [h]
theorem notin0 {a : Addr} : a ∉ ([] : List Addr) := by simp
end LL

set_option Elab.async false
set_option linter.all false
set_option maxRecDepth 100000
set_option maxHeartbeats 400000
/-! LDue: the answers of the three readings, in plain words -/
namespace LL
open PySem PySem.Spec PyProof.Rows L2
variable [KW]
def W3.boxes : W3 → Bool
  | .dou => true
  | _ => false
def lenD : PyData → Nat
  | .list ds => ds.length
  | _ => 0
/-- the grown sheet and the rows' readings -/
def readA (w : W3) (ns : List Nd) (row : Nat) : List Nd × (Nat → Nat) := readF w ns (belowF ns [row]) ns (fun _ => 0)
/-- what is due -/
inductive Due (w : W3) (d r : PyData) : PyData → Prop
  | sheet (i : Int) (h : wrongD 5000 w.boxes d = some i) : Due w d r (.tuple [.str "BadSheet", .int i])
  | value (h : wrongD 5000 w.boxes d = none) (h2 : isNum 0 ((lenD d : Int) - 1) r = false) : Due w d r (.tuple [.str "BadValue", .str "row"])
  | told (ns : List Nd) (row : Nat) (h : wrongD 5000 w.boxes d = none) (hd : d = .list (ns.map Nd.data)) (ok : okSheet w.boxes ns) (hl : ns.length ≤ 5000) (hr : r = .int row) (hlt : row < ns.length) :
      Due w d r (.tuple [.str "told", .tuple [.list ((readA w ns row).1.map Nd.data), .int ((readA w ns row).2 row : Nat)]])
theorem due_ex (w : W3) (d r : PyData) : ∃ e, Due w d r e := by
  cases h : wrongD 5000 w.boxes d with
  | some i => exact ⟨_, .sheet i h⟩
  | none =>
    cases h2 : isNum 0 ((lenD d : Int) - 1) r with
    | false => exact ⟨_, .value h h2⟩
    | true =>
      obtain ⟨ns, rfl, ok, hl⟩ := wrongD_none (by decide) h
      obtain ⟨i, rfl, h3, h4⟩ := num_nat h2 (by decide)
      have e : lenD (.list (ns.map Nd.data)) = ns.length := by show (ns.map Nd.data).length = ns.length; rw [List.length_map]
      rw [e] at h4
      exact ⟨_, .told ns i h rfl ok (by omega) rfl (by omega)⟩
theorem nd_data_inj {m n : Nd} (h : m.data = n.data) : m = n := by
  have : m.keys = n.keys := by rw [← Nd.keysD, ← Nd.keysD, h]
  exact keys_inj this
theorem nds_inj : ∀ {ms ns : List Nd}, ms.map Nd.data = ns.map Nd.data → ms = ns
  | [], [], _ => rfl
  | [], n :: ns, h => by simp at h
  | m :: ms, [], h => by simp at h
  | m :: ms, n :: ns, h => by
    rw [List.map_cons, List.map_cons] at h
    injection h with h1 h2
    rw [nd_data_inj h1, nds_inj h2]
theorem nd_sz (n : Nd) : sz n.data ≤ 4 := by
  unfold Nd.data
  rw [sz_tup, ks_sz]
  cases n <;> simp [Nd.keys]
theorem nds_sz (ns : List Nd) : szL (ns.map Nd.data) ≤ 4 * ns.length := by
  induction ns with
  | nil => rw [List.map_nil, szL_nil]; exact Nat.zero_le _
  | cons n ns ih =>
    rw [List.map_cons, szL_cons, List.length_cons]
    have := nd_sz n
    omega
theorem below_len (ns : List Nd) (rows : List Nat) : (belowF ns rows).length ≤ ns.length := by
  have := List.length_filter_le (marked ns rows) (List.range ns.length)
  rw [List.length_range] at this
  exact this
theorem readA_len (w : W3) (ns : List Nd) (row : Nat) : (readA w ns row).1.length ≤ 9 * ns.length := by
  have h1 := readF_len w ns (belowF ns [row]) ns (fun _ => 0)
  have h2 := below_len ns [row]
  unfold readA
  omega
theorem due_sz {w : W3} {d r e : PyData} (h : Due w d r e) : sz e ≤ 1000000 := by
  cases h with
  | sheet i h => rw [sz_tup, szL_cons, szL_cons, szL_nil]; unfold sz; decide
  | value h h2 => rw [sz_tup, szL_cons, szL_cons, szL_nil]; unfold sz; decide
  | told ns row h hd ok hl hr hlt =>
    have h1 := nds_sz (readA w ns row).1
    have h2 := readA_len w ns row
    rw [sz_tup, szL_cons, szL_cons, szL_nil, sz_tup, szL_cons, szL_cons, szL_nil, sz_lst]
    have e1 : ∀ x, sz (.str x) = 1 := fun x => by unfold sz; rfl
    have e2 : ∀ x, sz (.int x) = 1 := fun x => by unfold sz; rfl
    rw [e1, e2]
    omega
theorem due_sheet {w : W3} {d r e : PyData} {i : Int} (h : Due w d r e) (hi : wrongD 5000 w.boxes d = some i) : e = .tuple [.str "BadSheet", .int i] := by
  cases h with
  | sheet j h => rw [hi] at h; cases h; rfl
  | value h _ => rw [hi] at h; cases h
  | told _ _ h => rw [hi] at h; cases h
theorem due_value {w : W3} {d r e : PyData} (h : Due w d r e) (hi : wrongD 5000 w.boxes d = none) (h2 : isNum 0 ((lenD d : Int) - 1) r = false) : e = .tuple [.str "BadValue", .str "row"] := by
  cases h with
  | sheet j h => rw [hi] at h; cases h
  | value h _ => rfl
  | told ns row h hd ok hl hr hlt =>
    subst hd hr
    have el : lenD (.list (ns.map Nd.data)) = ns.length := by show (ns.map Nd.data).length = ns.length; rw [List.length_map]
    rw [el] at h2
    simp [isNum] at h2
    omega
theorem due_told {w : W3} {d r e : PyData} (h : Due w d r e) {ns : List Nd} {row : Nat} (hi : wrongD 5000 w.boxes d = none) (hd : d = .list (ns.map Nd.data)) (hr : r = .int (row : Nat)) (hlt : row < ns.length) :
    e = .tuple [.str "told", .tuple [.list ((readA w ns row).1.map Nd.data), .int ((readA w ns row).2 row : Nat)]] := by
  cases h with
  | sheet j h => rw [hi] at h; cases h
  | value h h2 =>
    subst hd hr
    have el : lenD (.list (ns.map Nd.data)) = ns.length := by show (ns.map Nd.data).length = ns.length; rw [List.length_map]
    rw [el] at h2
    simp [isNum] at h2
    omega
  | told ns' row' h hd' ok hl hr' hlt' =>
    rw [hd] at hd'
    have e1 : ns.map Nd.data = ns'.map Nd.data := by injection hd'
    have e2 := nds_inj e1
    rw [hr] at hr'
    have e3 : (row : Int) = row' := by injection hr'
    have e4 : row = row' := by omega
    subst e2 e4
    rfl
end LL

set_option Elab.async false
set_option linter.all false
set_option maxRecDepth 100000
set_option maxHeartbeats 400000
/-! LDw: a stream s and a book bk (a list b0 of nodes, their table b1) while formulas are drawn -/
namespace LL
open PySem PySem.Spec PyProof.Rows L2
variable [KW]
structure Dw (M : List Addr) (H : Hp) (s bk b0 b1 : Addr) (bx : Bool) (ns : List Nd) : Prop where
  str : StrAt M H s
  hbk : H bk = some (.lst [.ref b0, .ref b1])
  ms : s ∈ M
  kM : bk ∉ M
  s0 : s ≠ b0
  s1 : s ≠ b1
  B : BkN M H b0 b1 ns
  ok : okSheet bx ns
section
variable {M N : List Addr} {H H' : Hp} {s bk b0 b1 p : Addr} {bx : Bool} {ns : List Nd} {o : HO}
theorem Dw.ks (x : Dw M H s bk b0 b1 bx ns) : bk ∉ [s] := by simp; exact fun z => x.kM (by rw [z]; exact x.ms)
theorem Dw.kb (x : Dw M H s bk b0 b1 bx ns) : bk ∉ [b0, b1] := fun z => by
  rcases List.mem_cons.mp z with z | z
  · exact x.kM (by rw [z]; exact x.B.m0)
  · exact x.kM (by rw [List.mem_singleton.mp z]; exact x.B.m1)
theorem Dw.next (x : Dw M H s bk b0 b1 bx ns) (a : Adv [s] H H') (hs : StrAt M H' s) : Dw M H' s bk b0 b1 bx ns :=
  ⟨hs, a _ _ x.ks x.hbk, x.ms, x.kM, x.s0, x.s1, x.B.adv a (by simpa using x.s0.symm) (by simpa using x.s1.symm) (by simp [x.ms]) (by simpa using hs.here), x.ok⟩
theorem Dw.same (x : Dw M H s bk b0 b1 bx ns) (a : Adv [] H H') : Dw M H' s bk b0 b1 bx ns :=
  ⟨x.str.same a, a.same _ _ x.hbk, x.ms, x.kM, x.s0, x.s1, x.B.same a, x.ok⟩
theorem Dw.free (x : Dw M H s bk b0 b1 bx ns) (h : H p = none) : p ∉ M ∧ p ≠ s ∧ p ≠ bk ∧ p ≠ b0 ∧ p ≠ b1 := by
  have hm : p ∉ M := fun z => x.B.al p z h
  refine ⟨hm, fun z => hm (by rw [z]; exact x.ms), fun z => ?_, fun z => hm (by rw [z]; exact x.B.m0), fun z => hm (by rw [z]; exact x.B.m1)⟩
  rw [z, x.hbk] at h; cases h
theorem Dw.fresh (x : Dw M H s bk b0 b1 bx ns) (h : H p = none) : Dw (p :: M) (upd H p o) s bk b0 b1 bx ns := by
  have hf := x.free h
  exact ⟨(x.str.fresh h).same (Adv.new h), by rw [upd_ne hf.2.2.1.symm]; exact x.hbk, by simp [x.ms], by simp [hf.2.2.1.symm, x.kM], x.s0, x.s1, x.B.fresh h, x.ok⟩
theorem Dw.less (x : Dw M H s bk b0 b1 bx ns) (h : ∀ b ∈ N, b ∈ M) (ms : s ∈ N) (m0 : b0 ∈ N) (m1 : b1 ∈ N) : Dw N H s bk b0 b1 bx ns :=
  ⟨x.str.less h, x.hbk, ms, fun z => x.kM (h _ z), x.s0, x.s1, x.B.less h m0 m1, x.ok⟩
/-- an object of M that is neither the stream nor the book is changed -/
theorem Dw.put (x : Dw M H s bk b0 b1 bx ns) (hp : p ∈ M) (n0 : p ≠ s) (n1 : p ≠ b0) (n2 : p ≠ b1) : Dw M (upd H p o) s bk b0 b1 bx ns := by
  have a : Adv [p] H (upd H p o) := Adv.set (by simp)
  have kp : bk ≠ p := fun z => x.kM (by rw [z]; exact hp)
  exact ⟨x.str.adv a (by simpa using n0.symm) (by simp [hp]), by rw [upd_ne kp]; exact x.hbk, x.ms, x.kM, x.s0, x.s1, x.B.adv a (by simpa using n1.symm) (by simpa using n2.symm) (by simp [hp]) (by simp [upd_same]), x.ok⟩
theorem Dw.row {n : Nd} (x : Dw M H s bk b0 b1 bx ns) (hn : n.ok bx ns.length = true) (a : Adv [b0, b1] H H') (B : BkN M H' b0 b1 (rowF ns n).2) : Dw M H' s bk b0 b1 bx (rowF ns n).2 :=
  ⟨x.str.adv a (notin2 x.s0 x.s1) (by simp [x.B.m0, x.B.m1]), a _ _ x.kb x.hbk, x.ms, x.kM, x.s0, x.s1, B, rowF_ok x.ok hn⟩
theorem a_s {b : Addr} {c : Addr} (a : Adv [s] H H') : Adv [s, b, c] H H' := a.more (by simp)
theorem a_b {b c : Addr} (a : Adv [b, c] H H') : Adv [s, b, c] H H' := a.more (by simp +contextual)
end
/-- what a draw hands back -/
structure Dn (c : Nat) (M : List Addr) (s bk b0 b1 : Addr) (bx : Bool) (ns : List Nd) (H : Hp) (r : Nat) (ns' : List Nd) (H' : Hp) : Prop where
  pre : ns <+: ns'
  lt : r < ns'.length
  le : ns'.length ≤ ns.length + c
  D : Dw M H' s bk b0 b1 bx ns'
  a : Adv [s, b0, b1] H H'
theorem Dn.ge {c : Nat} {M : List Addr} {s bk b0 b1 : Addr} {bx : Bool} {ns : List Nd} {H : Hp} {r : Nat} {ns' : List Nd} {H' : Hp} (x : Dn c M s bk b0 b1 bx ns H r ns' H') : ns.length ≤ ns'.length := x.pre.length_le
end LL

set_option Elab.async false
set_option linter.all false
set_option maxRecDepth 100000
set_option maxHeartbeats 400000
/-! LOk: a reading keeps a sheet right -/
namespace LL
open PySem PySem.Spec PyProof.Rows L2
variable [KW]
theorem denyF_ok {bx : Bool} {ns : List Nd} {r : Nat} (ok : okSheet bx ns) (h : r < ns.length) : okSheet bx (denyF ns r).2 ∧ (denyF ns r).1 < (denyF ns r).2.length := by
  have o1 : okSheet bx (rowF ns .no).2 := rowF_ok ok rfl
  have l1 := rowF_lt ns .no
  have p1 := (rowF_pre ns .no).length_le
  unfold denyF
  exact ⟨rowF_ok o1 (by simp only [Nd.ok, Bool.and_eq_true, decide_eq_true_eq]; omega), rowF_lt _ _⟩
theorem moved_ok {bx : Bool} {ns : List Nd} {n : Nd} {f : Nat → Nat} {i : Nat} (hn : n.ok bx i = true) (hf : ∀ p ∈ n.parts, f p < ns.length) : (n.moved f).ok bx ns.length = true := by
  cases n with
  | no => rfl
  | letter j => exact hn
  | bin o j k =>
    simp only [Nd.moved, Nd.ok, Bool.and_eq_true, decide_eq_true_eq]
    exact ⟨hf j (by simp [Nd.parts]), hf k (by simp [Nd.parts])⟩
  | box j =>
    simp only [Nd.moved, Nd.ok, Bool.and_eq_true, decide_eq_true_eq] at hn ⊢
    exact ⟨hn.1, hf j (by simp [Nd.parts])⟩
theorem step1 {bx : Bool} {ns : List Nd} {n : Nd} (ok : okSheet bx ns) (hn : n.ok bx ns.length = true) : okSheet bx (rowF ns n).2 ∧ (rowF ns n).1 < (rowF ns n).2.length ∧ ns.length ≤ (rowF ns n).2.length :=
  ⟨rowF_ok ok hn, rowF_lt _ _, (rowF_pre ns n).length_le⟩
theorem stepF_ok {w : W3} {bx : Bool} {ns : List Nd} {n : Nd} {i : Nat} {f : Nat → Nat} (hw : w = .neg ∨ bx = true) (ok : okSheet bx ns) (hn : n.ok bx i = true) (hi : i < ns.length) (hf : ∀ p ∈ n.parts, f p < ns.length) :
    okSheet bx (stepF w ns i n f).2 ∧ (stepF w ns i n f).1 < (stepF w ns i n f).2.length := by
  have hm := moved_ok (ns := ns) hn hf
  have plain : okSheet bx (rowF ns (n.moved f)).2 ∧ (rowF ns (n.moved f)).1 < (rowF ns (n.moved f)).2.length := ⟨(step1 ok hm).1, (step1 ok hm).2.1⟩
  unfold stepF
  split
  · exact ⟨ok, hi⟩
  · exact ⟨ok, hi⟩
  · obtain ⟨o1, l1⟩ := denyF_ok ok hi
    exact denyF_ok o1 l1
  · rcases hw with hw | hw
    · cases hw
    · have := step1 ok (n := .box i) (by simp only [Nd.ok, Bool.and_eq_true, decide_eq_true_eq]; exact ⟨hw, hi⟩)
      exact ⟨this.1, this.2.1⟩
  · rename_i j k
    have hj := hf j (by simp [Nd.parts])
    have hk := hf k (by simp [Nd.parts])
    obtain ⟨o1, l1⟩ := denyF_ok ok hj
    have p1 := (denyF_pre ns (f j)).length_le
    obtain ⟨o2, l2⟩ := denyF_ok o1 (r := f k) (by omega)
    have p2 := (denyF_pre (denyF ns (f j)).2 (f k)).length_le
    obtain ⟨o3, l3, p3⟩ := step1 o2 (n := .bin .and (denyF ns (f j)).1 (denyF (denyF ns (f j)).2 (f k)).1) (by simp only [Nd.ok, Bool.and_eq_true, decide_eq_true_eq]; omega)
    exact denyF_ok o3 l3
  · rename_i j k
    obtain ⟨o1, l1, p1⟩ := step1 ok (n := .bin .imp (f j) (f k)) hm
    rcases hw with hw | hw
    · cases hw
    · have := step1 o1 (n := .box (rowF ns (.bin .imp (f j) (f k))).1) (by simp only [Nd.ok, Bool.and_eq_true, decide_eq_true_eq]; exact ⟨hw, l1⟩)
      exact ⟨this.1, this.2.1⟩
  · rename_i j
    have hj := hf j (by simp [Nd.parts])
    obtain ⟨o1, l1, p1⟩ := step1 ok (n := .box (f j)) hm
    have := step1 o1 (n := .bin .and (f j) (rowF ns (.box (f j))).1) (by simp only [Nd.ok, Bool.and_eq_true, decide_eq_true_eq]; omega)
    exact ⟨this.1, this.2.1⟩
  · exact plain
theorem readF_ok {w : W3} {bx : Bool} {old : List Nd} (hw : w = .neg ∨ bx = true) (oo : okSheet bx old) : ∀ (l : List Nat) (ns : List Nd) (f : Nat → Nat) (done : List Nat), okSheet bx ns → old.length ≤ ns.length → (∀ i ∈ done, f i < ns.length) →
    (∀ i ∈ l, i < old.length) → (∀ (a : List Nat) (i : Nat) (b : List Nat) (n : Nd), l = a ++ i :: b → old[i]? = some n → ∀ p ∈ n.parts, p ∈ done ++ a) → okSheet bx (readF w old l ns f).1
  | [], ns, f, done, ok, _, _, _, _ => ok
  | i :: l, ns, f, done, ok, hl, hd, hi, hp => by
    have hil := hi i List.mem_cons_self
    have hni : old[i]? = some old[i] := List.getElem?_eq_getElem hil
    have hs := stepF_ok (w := w) (ns := ns) (n := old[i]) (i := i) (f := f) hw ok (oo.2 i _ hni) (by omega) (fun p hp' => hd p (by have := hp [] i l _ rfl hni p hp'; simpa using this))
    have hpre := (stepF_pre w ns i old[i] f).length_le
    unfold readF
    rw [hni]
    refine readF_ok hw oo l _ _ (done ++ [i]) hs.1 (by show old.length ≤ (stepF w ns i old[i] f).2.length; omega) (fun j hj => ?_) (fun j hj => hi j (List.mem_cons_of_mem _ hj)) (fun a j b n e hn p hp' => ?_)
    · show (if j = i then (stepF w ns i old[i] f).1 else f j) < (stepF w ns i old[i] f).2.length
      by_cases e : j = i
      · rw [if_pos e]; exact hs.2
      · rw [if_neg e]
        rcases List.mem_append.mp hj with hj | hj
        · have := hd j hj; omega
        · exact absurd (List.mem_singleton.mp hj) e
    · have := hp (i :: a) j b n (by rw [e]; rfl) hn p hp'
      rw [List.append_assoc]
      exact this
theorem readA_ok {w : W3} {bx : Bool} {ns : List Nd} {row : Nat} (hw : w = .neg ∨ bx = true) (ok : okSheet bx ns) : okSheet bx (readA w ns row).1 := by
  refine readF_ok hw ok _ ns _ [] ok (Nat.le_refl _) (fun i hi => nomatch hi) (fun i hi => (below_mem.mp hi).1) (fun a i b n e hn p hp => ?_)
  have hm : i ∈ belowF ns [row] := by rw [e]; simp
  obtain ⟨h1, h2⟩ := below_parts ok hm hn p hp
  have hr : (belowF ns [row])[a.length]? = some i := by rw [e]; simp
  have := below_take hr h1 h2
  rw [e, List.take_append_of_le_length (Nat.le_refl _), List.take_length] at this
  simpa using this
theorem readA_pre (w : W3) (ns : List Nd) (row : Nat) : ns <+: (readA w ns row).1 := readF_pre w ns _ ns _
theorem Dw.read {M : List Addr} {H H' : Hp} {s bk b0 b1 : Addr} {bx : Bool} {ns : List Nd} {w : W3} {row : Nat} (x : Dw M H s bk b0 b1 bx ns) (hw : w = .neg ∨ bx = true) (a : Adv [b0, b1] H H') (B : BkN M H' b0 b1 (readA w ns row).1) : Dw M H' s bk b0 b1 bx (readA w ns row).1 :=
  ⟨x.str.adv a (notin2 x.s0 x.s1) (by simp [x.B.m0, x.B.m1]), a _ _ x.kb x.hbk, x.ms, x.kM, x.s0, x.s1, B, readA_ok hw x.ok⟩
/-- a new book -/
theorem Dw.new {M : List Addr} {H : Hp} {s b0 b1 bk : Addr} {bx : Bool} (hs : StrAt M H s) (ms : s ∈ M) (hal : ∀ b ∈ M, H b ≠ none) (n0 : H b0 = none) (n1 : (upd H b0 (.lst [])) b1 = none) (nk : (upd (upd H b0 (.lst [])) b1 (dxo b1 [])) bk = none) :
    Dw (b1 :: b0 :: M) (upd (upd (upd H b0 (.lst [])) b1 (dxo b1 [])) bk (.lst [.ref b0, .ref b1])) s bk b0 b1 bx [] := by
  have e01 : b0 ≠ b1 := ne_of_none (upd_same (H := H)) n1
  have a0 : Adv [] H (upd H b0 (.lst [])) := Adv.new n0
  have a1 : Adv [] (upd H b0 (.lst [])) (upd (upd H b0 (.lst [])) b1 (dxo b1 [])) := Adv.new n1
  have a2 : Adv [] _ (upd (upd (upd H b0 (.lst [])) b1 (dxo b1 [])) bk (.lst [.ref b0, .ref b1])) := Adv.new nk
  have h0 : (upd (upd H b0 (.lst [])) b1 (dxo b1 [])) b0 = some (.lst []) := a1.same _ _ upd_same
  have h1 : (upd (upd H b0 (.lst [])) b1 (dxo b1 [])) b1 = some (dxo b1 []) := upd_same
  have k0 : bk ≠ b0 := (ne_of_none h0 nk).symm
  have k1 : bk ≠ b1 := (ne_of_none h1 nk).symm
  have nkH : H bk = none := a0.free (by simp) (a1.free (by simp) nk)
  have s0 : s ≠ b0 := fun z => hal s ms (by rw [z]; exact n0)
  have s1 : s ≠ b1 := fun z => hal s ms (by rw [z]; exact a0.free (by simp) n1)
  refine ⟨(((hs.fresh n0).same a0).fresh n1).same (a1.trans a2), upd_same, by simp [ms], fun z => ?_, s0, s1, ⟨⟨[], a2.same _ _ h0, .nil⟩, (Tab.new h1).same a2, by simp, by simp, e01, fun b hb => ?_⟩, ⟨List.nodup_nil, fun i n hi => by simp at hi⟩⟩
  · rcases List.mem_cons.mp z with z | z
    · exact k1 z
    · rcases List.mem_cons.mp z with z | z
      · exact k0 z
      · exact hal bk z nkH
  · rcases List.mem_cons.mp hb with z | hb
    · rw [z, a2.same _ _ h1]; simp
    · rcases List.mem_cons.mp hb with z | hb
      · rw [z, a2.same _ _ h0]; simp
      · cases e : H b with
        | none => exact absurd e (hal b hb)
        | some o => rw [((a0.trans a1).trans a2).same _ _ e]; simp
theorem nd_dep (n : Nd) : dep n.data ≤ 1 := by
  unfold Nd.data
  rw [dep_tup, ks_dep]
  omega
theorem new_at {H : Hp} {p : Addr} {o : HO} (_ : H p = none) : (upd H p o) p = some o := upd_same
theorem sz_non : sz .none = 1 := by unfold sz; rfl
theorem dep_non : dep .none = 0 := by unfold dep; rfl
/-! ### small data -/
def scV : V → Bool
  | .non => true
  | .bl _ => true
  | .int _ => true
  | .str _ => true
  | _ => false
def scD : V → PyData
  | .bl b => .bool b
  | .int i => .int i
  | .str x => .str x
  | _ => .none
theorem sc_is {M : List Addr} {H : Hp} {v : V} (h : scV v = true) : Is M H (scD v) v := by
  cases v with
  | non => exact Is.non
  | bl b => exact Is.bl
  | int i => exact Is.int
  | str x => exact Is.str
  | _ => cases h
theorem sc_sz (v : V) : sz (scD v) = 1 := by cases v <;> (unfold scD sz; rfl)
theorem sc_dep (v : V) : dep (scD v) = 0 := by cases v <;> (unfold scD dep; rfl)
/-- a small datum -/
def SmD (M : List Addr) (H : Hp) (v : V) : Prop := ∃ d, Is M H d v ∧ sz d ≤ 10 ∧ dep d ≤ 3
def SmDs (M : List Addr) (H : Hp) (vs : List V) : Prop := ∃ ds, IsDs M H ds vs ∧ ∀ d ∈ ds, sz d ≤ 10 ∧ dep d ≤ 3
section
variable {M N : List Addr} {H H' : Hp} {v : V} {vs ws : List V} {p : Addr}
theorem SmD.adv (x : SmD M H v) (a : Adv M H H') : SmD M H' v := let ⟨d, h, z⟩ := x; ⟨d, h.adv a, z⟩
theorem SmDs.adv (x : SmDs M H vs) (a : Adv M H H') : SmDs M H' vs := let ⟨d, h, z⟩ := x; ⟨d, h.adv a, z⟩
theorem SmD.sc (h : scV v = true) : SmD M H v := ⟨scD v, sc_is h, by rw [sc_sz]; decide, by rw [sc_dep]; decide⟩
theorem SmDs.nil : SmDs M H [] := ⟨[], .nil, by simp⟩
theorem SmDs.cons (x : SmD M H v) (y : SmDs M H vs) : SmDs M H (v :: vs) := by
  obtain ⟨d, h, z⟩ := x
  obtain ⟨ds, hs, zs⟩ := y
  refine ⟨d :: ds, .cons h hs, fun e he => ?_⟩
  rcases List.mem_cons.mp he with rfl | he
  · exact z
  · exact zs e he
theorem SmDs.nds {ns : List Nd} (h : IsDs M H (ns.map Nd.data) vs) : SmDs M H vs := ⟨_, h, fun d hd => by
  obtain ⟨n, _, rfl⟩ := List.mem_map.mp hd
  have := nd_sz n
  have := nd_dep n
  omega⟩
theorem SmDs.app (x : SmDs M H vs) (y : SmDs M H ws) : SmDs M H (vs ++ ws) := by
  obtain ⟨ds, h, z⟩ := x
  obtain ⟨es, hs, zs⟩ := y
  refine ⟨ds ++ es, h.app hs, fun e he => ?_⟩
  rcases List.mem_append.mp he with he | he
  · exact z e he
  · exact zs e he
theorem SmDs.get (x : SmDs M H vs) {i : Nat} (h : vs[i]? = some v) : SmD M H v := by
  obtain ⟨ds, hs, zs⟩ := x
  obtain ⟨d, hd, hi⟩ := hs.getV h
  exact ⟨d, hi, zs d (List.mem_of_getElem? hd)⟩
theorem SmDs.mem (x : SmDs M H vs) (h : v ∈ vs) : SmD M H v := let ⟨_, hi⟩ := List.getElem?_of_mem h; x.get hi
theorem sc_list : ∀ {xs : List V}, xs.all scV = true → IsDs M H (xs.map scD) xs
  | [], _ => .nil
  | x :: xs, h => by
    rw [List.all_cons, Bool.and_eq_true] at h
    exact .cons (sc_is h.1) (sc_list h.2)
theorem sc_szL : ∀ xs : List V, szL (xs.map scD) = xs.length
  | [] => szL_nil
  | x :: xs => by rw [List.map_cons, szL_cons, sc_szL xs, sc_sz, List.length_cons]; omega
theorem sc_depL : ∀ xs : List V, depL (xs.map scD) = 0
  | [] => depL_nil
  | x :: xs => by rw [List.map_cons, depL_cons, sc_depL xs, sc_dep]; rfl
/-- a new tuple of scalars -/
theorem sm_tup {Q : VK} {xs : List V} (hal : ∀ b ∈ M, H b ≠ none) (hx : xs.all scV = true) (hl : xs.length ≤ 9) (k : ∀ p H', SmD M H' (.ref p) → Adv [] H H' → (∀ b ∈ M, H' b ≠ none) → H' p = some (.tup xs) → Q (.ref p) H') :
    xs.length ≤ sizeLine ∧ ∀ p, H p = none → Q (.ref p) (upd H p (.tup xs)) :=
  ⟨by rw [sizeLine_eq]; omega, fun p np => by
    have a : Adv [] H (upd H p (.tup xs)) := Adv.new np
    exact k p _ ⟨.tuple (xs.map scD), Is.tup upd_same (not_mem_new hal np) (sc_list hx), by rw [sz_tup, sc_szL]; omega, by rw [dep_tup, sc_depL]; omega⟩ a (alloc_adv hal a (by simp)) upd_same⟩
end
/-! ### rows: tuples of keys -/
def kT (ks : List Key) : PyData := .tuple (ks.map keyDt)
def RwD (M : List Addr) (H : Hp) (v : V) : Prop := ∃ ks : List Key, ks.length ≤ 3 ∧ Is M H (kT ks) v
def RwDs (M : List Addr) (H : Hp) (vs : List V) : Prop := ∃ kss : List (List Key), IsDs M H (kss.map kT) vs ∧ ∀ ks ∈ kss, ks.length ≤ 3
section
variable {M N : List Addr} {H H' : Hp} {v : V} {vs ws : List V} {p : Addr}
theorem RwD.adv (x : RwD M H v) (a : Adv M H H') : RwD M H' v := let ⟨d, z, h⟩ := x; ⟨d, z, h.adv a⟩
theorem RwDs.adv (x : RwDs M H vs) (a : Adv M H H') : RwDs M H' vs := let ⟨d, h, z⟩ := x; ⟨d, h.adv a, z⟩
theorem RwDs.fresh (x : RwDs M H vs) (h : H p = none) : RwDs (p :: M) H vs := let ⟨d, y, z⟩ := x; ⟨d, y.fresh h, z⟩
theorem RwDs.less (x : RwDs M H vs) (h : ∀ b ∈ N, b ∈ M) : RwDs N H vs := let ⟨d, y, z⟩ := x; ⟨d, y.less h, z⟩
theorem RwDs.nil : RwDs M H [] := ⟨[], .nil, by simp⟩
theorem RwDs.cons (x : RwD M H v) (y : RwDs M H vs) : RwDs M H (v :: vs) := by
  obtain ⟨d, z, h⟩ := x
  obtain ⟨ds, hs, zs⟩ := y
  refine ⟨d :: ds, .cons h hs, fun e he => ?_⟩
  rcases List.mem_cons.mp he with rfl | he
  · exact z
  · exact zs e he
theorem RwDs.app (x : RwDs M H vs) (y : RwDs M H ws) : RwDs M H (vs ++ ws) := by
  obtain ⟨ds, h, z⟩ := x
  obtain ⟨es, hs, zs⟩ := y
  refine ⟨ds ++ es, by rw [List.map_append]; exact h.app hs, fun e he => ?_⟩
  rcases List.mem_append.mp he with he | he
  · exact z e he
  · exact zs e he
theorem RwDs.get (x : RwDs M H vs) {i : Nat} (h : vs[i]? = some v) : RwD M H v := by
  obtain ⟨ds, hs, zs⟩ := x
  obtain ⟨d, hd, hi⟩ := hs.getV h
  rw [List.getElem?_map, Option.map_eq_some_iff] at hd
  obtain ⟨ks, hk, rfl⟩ := hd
  exact ⟨ks, zs ks (List.mem_of_getElem? hk), hi⟩
theorem RwD.sm (x : RwD M H v) : SmD M H v := by
  obtain ⟨ks, z, h⟩ := x
  exact ⟨_, h, by unfold kT; rw [sz_tup, ks_sz]; omega, by unfold kT; rw [dep_tup, ks_dep]; omega⟩
theorem RwD.at_ (x : RwD M H v) : ∃ (a : Addr) (ks : List Key), v = .ref a ∧ Tp M H a (ks.map kV) ∧ ks.length ≤ 3 := by
  obtain ⟨ks, z, h⟩ := x
  obtain ⟨a, vs, rfl, ha, hs⟩ := h.tupE
  rw [ks_of _ _ hs] at ha
  exact ⟨a, ks, rfl, ha, z⟩
theorem RwDs.sm (x : RwDs M H vs) : SmDs M H vs := by
  obtain ⟨kss, h, z⟩ := x
  refine ⟨_, h, fun d hd => ?_⟩
  obtain ⟨ks, hk, rfl⟩ := List.mem_map.mp hd
  have := z ks hk
  unfold kT
  rw [sz_tup, ks_sz, dep_tup, ks_dep]
  omega
theorem RwDs.nds {ns : List Nd} (h : IsDs M H (ns.map Nd.data) vs) : RwDs M H vs := ⟨ns.map Nd.keys, by rw [List.map_map]; exact h, fun ks hk => by
  obtain ⟨n, _, rfl⟩ := List.mem_map.mp hk
  cases n <;> simp [Nd.keys]⟩
theorem rw_new {ks : List Key} (hal : ∀ b ∈ M, H b ≠ none) (np : H p = none) (hl : ks.length ≤ 3) : RwD M (upd H p (.tup (ks.map kV))) (.ref p) :=
  ⟨ks, hl, nd_data upd_same (not_mem_new hal np)⟩
theorem SmDs.take (x : SmDs M H vs) (i : Nat) : SmDs M H (vs.take i) := by
  obtain ⟨ds, h, z⟩ := x
  refine ⟨ds.take i, ?_, fun d hd => z d (List.mem_of_mem_take hd)⟩
  refine IsDs.of_get (by rw [List.length_take, List.length_take, h.len]) fun j d v h1 h2 => ?_
  rw [List.getElem?_take] at h1 h2
  split at h1
  · rename_i hj
    rw [if_pos hj] at h2
    obtain ⟨v', e, hv⟩ := h.get h1
    rw [h2] at e
    cases e
    exact hv
  · cases h1
theorem SmDs.drop (x : SmDs M H vs) (i : Nat) : SmDs M H (vs.drop i) := by
  obtain ⟨ds, h, z⟩ := x
  exact ⟨ds.drop i, h.drop i, fun d hd => z d (List.mem_of_mem_drop hd)⟩
theorem SmDs.cut (x : SmDs M H vs) (lo hi : Option Int) : SmDs M H (cutV vs lo hi) := by
  unfold cutV
  exact (x.drop _).take _
theorem cut_len (vs : List V) (lo hi : Option Int) : (cutV vs lo hi).length ≤ vs.length := by
  unfold cutV
  rw [List.length_take, List.length_drop]
  omega
theorem SmDs.fresh (x : SmDs M H vs) (h : H p = none) : SmDs (p :: M) H vs := let ⟨d, y, z⟩ := x; ⟨d, y.fresh h, z⟩
theorem SmDs.of_sc {xs : List V} (h : xs.all scV = true) : SmDs M H xs := by
  refine ⟨xs.map scD, sc_list h, fun d hd => ?_⟩
  obtain ⟨x, _, rfl⟩ := List.mem_map.mp hd
  rw [sc_sz, sc_dep]
  omega
theorem sm_lst {l : Addr} {ks : List Key} (h : H l = some (.lst (ks.map kV))) (hl : l ∉ M) (hz : ks.length ≤ 3) : SmD M H (.ref l) :=
  ⟨.list (ks.map keyDt), Is.lst h hl (ks_data ks), by rw [sz_lst, ks_sz]; omega, by rw [dep_lst, ks_dep]; omega⟩
end
theorem depL_of {k : Nat} : ∀ {ds : List PyData}, (∀ d ∈ ds, dep d ≤ k) → depL ds ≤ k := fun h => depL_le h
theorem SmDs.lst {M : List Addr} {H : Hp} {vs : List V} {l : Addr} (x : SmDs M H vs) (h : H l = some (.lst vs)) (hl : l ∉ M) (hz : vs.length ≤ 90000) : ∃ d, Is M H d (.ref l) ∧ sz d ≤ 1000000 ∧ dep d ≤ 4 := by
  obtain ⟨ds, hs, zs⟩ := x
  have := hs.len
  have h1 := szL_le (k := 10) (fun d hd => (zs d hd).1)
  have h2 := depL_le (k := 3) (fun d hd => (zs d hd).2)
  exact ⟨.list ds, Is.lst h hl hs, by rw [sz_lst]; omega, by rw [dep_lst]; omega⟩
end LL

set_option Elab.async false
set_option linter.all false
set_option maxRecDepth 100000
set_option maxHeartbeats 4000000
namespace K59
open PySem PySem.Spec PyProof.Rows L2 LL
def top (i : Nat) : Stmt := PySem.Challenge.pw_provedorshown_k59_whole_readings_of_rows.main.body.getD i (.Pass ⟨0, 0, 0, 0⟩)
abbrev s_is_integer : Stmt := top 19
theorem sc_is_integer : FnScope ["value"] ["value"] (defScope s_is_integer) := ⟨rfl, rfl, rfl, by decide +kernel, rfl, by decide +kernel, by decide +kernel⟩
abbrev s_is_between : Stmt := top 20
theorem sc_is_between : FnScope ["value", "low", "high"] ["value", "low", "high"] (defScope s_is_between) := ⟨rfl, rfl, rfl, by decide +kernel, rfl, by decide +kernel, by decide +kernel⟩
abbrev s_is_node : Stmt := top 26
theorem sc_is_node : FnScope ["value", "row", "boxed", "word", "part"] ["value", "row", "boxed"] (defScope s_is_node) := ⟨rfl, rfl, rfl, by decide +kernel, rfl, by decide +kernel, by decide +kernel⟩
abbrev s_wrong_row : Stmt := top 27
theorem sc_wrong_row : FnScope ["value", "most", "boxed", "seen", "row", "node"] ["value", "most", "boxed"] (defScope s_wrong_row) := ⟨rfl, rfl, rfl, by decide +kernel, rfl, by decide +kernel, by decide +kernel⟩
abbrev s_parts : Stmt := top 28
theorem sc_parts : FnScope ["node"] ["node"] (defScope s_parts) := ⟨rfl, rfl, rfl, by decide +kernel, rfl, by decide +kernel, by decide +kernel⟩
abbrev s_rows_below : Stmt := top 29
theorem sc_rows_below : FnScope ["sheet", "rows", "marked", "row", "part"] ["sheet", "rows"] (defScope s_rows_below) := ⟨rfl, rfl, rfl, by decide +kernel, rfl, by decide +kernel, by decide +kernel⟩
abbrev s_places : Stmt := top 30
theorem sc_places : FnScope ["sheet", "table", "row", "node"] ["sheet"] (defScope s_places) := ⟨rfl, rfl, rfl, by decide +kernel, rfl, by decide +kernel, by decide +kernel⟩
abbrev s_row_for : Stmt := top 31
theorem sc_row_for : FnScope ["sheet", "table", "node"] ["sheet", "table", "node"] (defScope s_row_for) := ⟨rfl, rfl, rfl, by decide +kernel, rfl, by decide +kernel, by decide +kernel⟩
abbrev s_same_word : Stmt := top 34
theorem sc_same_word : FnScope ["growing", "node", "new", "part"] ["growing", "node", "new"] (defScope s_same_word) := ⟨rfl, rfl, rfl, by decide +kernel, rfl, by decide +kernel, by decide +kernel⟩
abbrev s_negative_row : Stmt := top 35
theorem sc_negative_row : FnScope ["growing", "row", "node", "new", "first", "second"] ["growing", "row", "node", "new"] (defScope s_negative_row) := ⟨rfl, rfl, rfl, by decide +kernel, rfl, by decide +kernel, by decide +kernel⟩
abbrev s_boxed_row : Stmt := top 36
theorem sc_boxed_row : FnScope ["growing", "row", "node", "new", "read"] ["growing", "row", "node", "new"] (defScope s_boxed_row) := ⟨rfl, rfl, rfl, by decide +kernel, rfl, by decide +kernel, by decide +kernel⟩
abbrev s_doubled_row : Stmt := top 37
theorem sc_doubled_row : FnScope ["growing", "row", "node", "new", "read"] ["growing", "row", "node", "new"] (defScope s_doubled_row) := ⟨rfl, rfl, rfl, by decide +kernel, rfl, by decide +kernel, by decide +kernel⟩
abbrev s_grown : Stmt := top 39
theorem sc_grown : FnScope ["growing", "rows", "word", "reader", "sheet", "new", "row"] ["growing", "rows", "word"] (defScope s_grown) := ⟨rfl, rfl, rfl, by decide +kernel, rfl, by decide +kernel, by decide +kernel⟩
abbrev s_read_row : Stmt := top 40
theorem sc_read_row : FnScope ["sheet", "row", "word", "boxes", "wrong", "growing", "new"] ["sheet", "row", "word", "boxes"] (defScope s_read_row) := ⟨rfl, rfl, rfl, by decide +kernel, rfl, by decide +kernel, by decide +kernel⟩
abbrev s_negative : Stmt := top 41
theorem sc_negative : FnScope ["sheet", "row"] ["sheet", "row"] (defScope s_negative) := ⟨rfl, rfl, rfl, by decide +kernel, rfl, by decide +kernel, by decide +kernel⟩
abbrev s_boxed : Stmt := top 42
theorem sc_boxed : FnScope ["sheet", "row"] ["sheet", "row"] (defScope s_boxed) := ⟨rfl, rfl, rfl, by decide +kernel, rfl, by decide +kernel, by decide +kernel⟩
abbrev s_doubled : Stmt := top 43
theorem sc_doubled : FnScope ["sheet", "row"] ["sheet", "row"] (defScope s_doubled) := ⟨rfl, rfl, rfl, by decide +kernel, rfl, by decide +kernel, by decide +kernel⟩
abbrev s_law_stream : Stmt := top 45
theorem sc_law_stream : FnScope ["script"] ["script"] (defScope s_law_stream) := ⟨rfl, rfl, rfl, by decide +kernel, rfl, by decide +kernel, by decide +kernel⟩
abbrev s_law_next : Stmt := top 46
theorem sc_law_next : FnScope ["stream", "many", "k", "cell", "digit"] ["stream", "many"] (defScope s_law_next) := ⟨rfl, rfl, rfl, by decide +kernel, rfl, by decide +kernel, by decide +kernel⟩
abbrev s_law_pick : Stmt := top 47
theorem sc_law_pick : FnScope ["stream", "rows"] ["stream", "rows"] (defScope s_law_pick) := ⟨rfl, rfl, rfl, by decide +kernel, rfl, by decide +kernel, by decide +kernel⟩
abbrev s_law_from : Stmt := top 48
theorem sc_law_from : FnScope ["stream", "low", "high"] ["stream", "low", "high"] (defScope s_law_from) := ⟨rfl, rfl, rfl, by decide +kernel, rfl, by decide +kernel, by decide +kernel⟩
abbrev s_law_number : Stmt := top 49
theorem sc_law_number : FnScope ["value", "low", "high"] ["value", "low", "high"] (defScope s_law_number) := ⟨rfl, rfl, rfl, by decide +kernel, rfl, by decide +kernel, by decide +kernel⟩
abbrev s_law_same : Stmt := top 50
theorem sc_law_same : FnScope ["actual", "due", "left", "turn", "one", "other", "at", "key"] ["actual", "due"] (defScope s_law_same) := ⟨rfl, rfl, rfl, by decide +kernel, rfl, by decide +kernel, by decide +kernel⟩
abbrev s_law_copy : Stmt := top 51
theorem sc_law_copy : FnScope ["value", "found", "key", "item"] ["value"] (defScope s_law_copy) := ⟨rfl, rfl, rfl, by decide +kernel, rfl, by decide +kernel, by decide +kernel⟩
abbrev s_law_named : Stmt := top 52
theorem sc_law_named : FnScope ["error", "names", "fits"] ["error"] (defScope s_law_named) := ⟨rfl, rfl, rfl, by decide +kernel, rfl, by decide +kernel, by decide +kernel⟩
abbrev s_law_book : Stmt := top 53
theorem sc_law_book : FnScope ["sheet", "table", "at"] ["sheet"] (defScope s_law_book) := ⟨rfl, rfl, rfl, by decide +kernel, rfl, by decide +kernel, by decide +kernel⟩
abbrev s_law_row : Stmt := top 54
theorem sc_law_row : FnScope ["book", "node"] ["book", "node"] (defScope s_law_row) := ⟨rfl, rfl, rfl, by decide +kernel, rfl, by decide +kernel, by decide +kernel⟩
abbrev s_law_parts : Stmt := top 55
theorem sc_law_parts : FnScope ["node"] ["node"] (defScope s_law_parts) := ⟨rfl, rfl, rfl, by decide +kernel, rfl, by decide +kernel, by decide +kernel⟩
abbrev s_law_below : Stmt := top 56
theorem sc_law_below : FnScope ["sheet", "rows", "marked", "row", "at", "part"] ["sheet", "rows"] (defScope s_law_below) := ⟨rfl, rfl, rfl, by decide +kernel, rfl, by decide +kernel, by decide +kernel⟩
abbrev s_law_moved : Stmt := top 57
theorem sc_law_moved : FnScope ["node", "new", "part"] ["node", "new"] (defScope s_law_moved) := ⟨rfl, rfl, rfl, by decide +kernel, rfl, by decide +kernel, by decide +kernel⟩
abbrev s_law_not : Stmt := top 58
theorem sc_law_not : FnScope ["book", "row"] ["book", "row"] (defScope s_law_not) := ⟨rfl, rfl, rfl, by decide +kernel, rfl, by decide +kernel, by decide +kernel⟩
abbrev s_law_leaf : Stmt := top 59
theorem sc_law_leaf : FnScope ["stream", "book", "letters"] ["stream", "book", "letters"] (defScope s_law_leaf) := ⟨rfl, rfl, rfl, by decide +kernel, rfl, by decide +kernel, by decide +kernel⟩
abbrev s_law_tree : Stmt := top 60
theorem sc_law_tree : FnScope ["stream", "book", "letters", "many", "modal", "first", "j", "k"] ["stream", "book", "letters", "many", "modal"] (defScope s_law_tree) := ⟨rfl, rfl, rfl, by decide +kernel, rfl, by decide +kernel, by decide +kernel⟩
abbrev s_law_heap : Stmt := top 61
theorem sc_law_heap : FnScope ["stream", "book", "letters", "many", "modal", "k", "rows", "j", "other", "word"] ["stream", "book", "letters", "many", "modal"] (defScope s_law_heap) := ⟨rfl, rfl, rfl, by decide +kernel, rfl, by decide +kernel, by decide +kernel⟩
abbrev s_law_formula : Stmt := top 62
theorem sc_law_formula : FnScope ["stream", "book", "letters", "many", "modal"] ["stream", "book", "letters", "many", "modal"] (defScope s_law_formula) := ⟨rfl, rfl, rfl, by decide +kernel, rfl, by decide +kernel, by decide +kernel⟩
abbrev s_law_is_node : Stmt := top 63
theorem sc_law_is_node : FnScope ["value", "at", "modal", "word", "part"] ["value", "at", "modal"] (defScope s_law_is_node) := ⟨rfl, rfl, rfl, by decide +kernel, rfl, by decide +kernel, by decide +kernel⟩
abbrev s_law_wrong_row : Stmt := top 64
theorem sc_law_wrong_row : FnScope ["value", "most", "modal", "seen", "at"] ["value", "most", "modal"] (defScope s_law_wrong_row) := ⟨rfl, rfl, rfl, by decide +kernel, rfl, by decide +kernel, by decide +kernel⟩
abbrev s_law_reading_row : Stmt := top 65
theorem sc_law_reading_row : FnScope ["word", "book", "at", "new", "node", "one", "two", "row"] ["word", "book", "at", "new"] (defScope s_law_reading_row) := ⟨rfl, rfl, rfl, by decide +kernel, rfl, by decide +kernel, by decide +kernel⟩
abbrev s_law_read : Stmt := top 66
theorem sc_law_read : FnScope ["word", "book", "rows", "new", "at"] ["word", "book", "rows"] (defScope s_law_read) := ⟨rfl, rfl, rfl, by decide +kernel, rfl, by decide +kernel, by decide +kernel⟩
abbrev s_law_due : Stmt := top 67
theorem sc_law_due : FnScope ["word", "sheet", "row", "wrong", "book", "new"] ["word", "sheet", "row"] (defScope s_law_due) := ⟨rfl, rfl, rfl, by decide +kernel, rfl, by decide +kernel, by decide +kernel⟩
abbrev s_law_asked : Stmt := top 68
theorem sc_law_asked : FnScope ["word", "sheet", "row", "handed", "told", "error", "name"] ["word", "sheet", "row"] (defScope s_law_asked) := ⟨rfl, rfl, rfl, by decide +kernel, rfl, by decide +kernel, by decide +kernel⟩
abbrev s_law_long : Stmt := top 69
theorem sc_law_long : FnScope ["stream", "many", "words", "a", "b", "c", "rows", "at", "word", "other"] ["stream", "many", "words"] (defScope s_law_long) := ⟨rfl, rfl, rfl, by decide +kernel, rfl, by decide +kernel, by decide +kernel⟩
abbrev s_law_sheet : Stmt := top 70
theorem sc_law_sheet : FnScope ["stream", "word", "kind", "boxes", "words", "book", "turn", "row"] ["stream", "word"] (defScope s_law_sheet) := ⟨rfl, rfl, rfl, by decide +kernel, rfl, by decide +kernel, by decide +kernel⟩
abbrev s_law_bent : Stmt := top 71
theorem sc_law_bent : FnScope ["stream", "sheet", "at", "low", "odd"] ["stream", "sheet"] (defScope s_law_bent) := ⟨rfl, rfl, rfl, by decide +kernel, rfl, by decide +kernel, by decide +kernel⟩
abbrev s_law : Stmt := top 72
theorem sc_law : FnScope ["script", "stream", "word", "sheet", "row", "due", "told", "spoilt", "bent", "other", "small", "at"] ["script"] (defScope s_law) := ⟨rfl, rfl, rfl, by decide +kernel, rfl, by decide +kernel, by decide +kernel⟩
/-- the built-ins that the text does not name anew -/
structure Txt (K : PySem.W.Frag) (mg : Str → Option Value) : Prop where
  ValueError : mg "ValueError" = none
  abs : mg "abs" = none
  all : mg "all" = none
  bool : mg "bool" = none
  dict : mg "dict" = none
  enumerate : mg "enumerate" = none
  int : mg "int" = none
  isinstance : mg "isinstance" = none
  len : mg "len" = none
  list : mg "list" = none
  max : mg "max" = none
  min : mg "min" = none
  range : mg "range" = none
  str : mg "str" = none
  tuple : mg "tuple" = none
variable [KW]
/-- the constants of the top -/
structure Con (K : PySem.W.Frag) (mg : Str → Option Value) (w : World) : Prop where
  items : ∃ (a : Addr) (es : Array DictEntry) (n : Nat), mg "ITEMS" = some (.ref a) ∧ KDict K w a es n ∧ ∀ z : Str, ∃ r, PySem.W.nsIn K a z = some r ∧ RelV (match nItems z with | some k => V.int (k : Nat) | none => V.non) (r.getD .none)
  last : ∃ t, mg "LAST_LETTER" = some (.int 7 t)
  most : ∃ t, mg "MOST_PAPER_ROWS" = some (.int 5000 t)
  no : ∃ a, mg "NO" = some (.ref a) ∧ KW.tp a [.str "no"]
structure All (K : PySem.W.Frag) (mg : Str → Option Value) (w : World) where
  T : Txt K mg
  C : Con K mg w
  W : KWOk K w
  is_integer : Df K mg "is_integer" s_is_integer ["value"]
  is_between : Df K mg "is_between" s_is_between ["value", "low", "high"]
  is_node : Df K mg "is_node" s_is_node ["value", "row", "boxed"]
  wrong_row : Df K mg "wrong_row" s_wrong_row ["value", "most", "boxed"]
  parts : Df K mg "parts" s_parts ["node"]
  rows_below : Df K mg "rows_below" s_rows_below ["sheet", "rows"]
  places : Df K mg "places" s_places ["sheet"]
  row_for : Df K mg "row_for" s_row_for ["sheet", "table", "node"]
  same_word : Df K mg "same_word" s_same_word ["growing", "node", "new"]
  negative_row : Df K mg "negative_row" s_negative_row ["growing", "row", "node", "new"]
  boxed_row : Df K mg "boxed_row" s_boxed_row ["growing", "row", "node", "new"]
  doubled_row : Df K mg "doubled_row" s_doubled_row ["growing", "row", "node", "new"]
  grown : Df K mg "grown" s_grown ["growing", "rows", "word"]
  read_row : Df K mg "read_row" s_read_row ["sheet", "row", "word", "boxes"]
  negative : Df K mg "negative" s_negative ["sheet", "row"]
  boxed : Df K mg "boxed" s_boxed ["sheet", "row"]
  doubled : Df K mg "doubled" s_doubled ["sheet", "row"]
  law_stream : Df K mg "_law_stream" s_law_stream ["script"]
  law_next : Df K mg "_law_next" s_law_next ["stream", "many"]
  law_pick : Df K mg "_law_pick" s_law_pick ["stream", "rows"]
  law_from : Df K mg "_law_from" s_law_from ["stream", "low", "high"]
  law_number : Df K mg "_law_number" s_law_number ["value", "low", "high"]
  law_same : Df K mg "_law_same" s_law_same ["actual", "due"]
  law_copy : Df K mg "_law_copy" s_law_copy ["value"]
  law_named : Df K mg "_law_named" s_law_named ["error"]
  law_book : Df K mg "_law_book" s_law_book ["sheet"]
  law_row : Df K mg "_law_row" s_law_row ["book", "node"]
  law_parts : Df K mg "_law_parts" s_law_parts ["node"]
  law_below : Df K mg "_law_below" s_law_below ["sheet", "rows"]
  law_moved : Df K mg "_law_moved" s_law_moved ["node", "new"]
  law_not : Df K mg "_law_not" s_law_not ["book", "row"]
  law_leaf : Df K mg "_law_leaf" s_law_leaf ["stream", "book", "letters"]
  law_tree : Df K mg "_law_tree" s_law_tree ["stream", "book", "letters", "many", "modal"]
  law_heap : Df K mg "_law_heap" s_law_heap ["stream", "book", "letters", "many", "modal"]
  law_formula : Df K mg "_law_formula" s_law_formula ["stream", "book", "letters", "many", "modal"]
  law_is_node : Df K mg "_law_is_node" s_law_is_node ["value", "at", "modal"]
  law_wrong_row : Df K mg "_law_wrong_row" s_law_wrong_row ["value", "most", "modal"]
  law_reading_row : Df K mg "_law_reading_row" s_law_reading_row ["word", "book", "at", "new"]
  law_read : Df K mg "_law_read" s_law_read ["word", "book", "rows"]
  law_due : Df K mg "_law_due" s_law_due ["word", "sheet", "row"]
  law_asked : Df K mg "_law_asked" s_law_asked ["word", "sheet", "row"]
  law_long : Df K mg "_law_long" s_law_long ["stream", "many", "words"]
  law_sheet : Df K mg "_law_sheet" s_law_sheet ["stream", "word"]
  law_bent : Df K mg "_law_bent" s_law_bent ["stream", "sheet"]
  law : Df K mg "law" s_law ["script"]
end K59

set_option Elab.async false
set_option linter.all false
set_option maxRecDepth 100000
set_option maxHeartbeats 4000000
namespace K59
open PySem PySem.Spec PyProof.Rows L2 LL
open C8 (pss_cut)
section
variable [KW]
variable {P : Program} {w : World} {K : PySem.W.Frag} {mg : Str → Option Value} {base : Heap}
/-! ### _law_stream -/
def spStream (K : PySem.W.Frag) : Sp := fun vs H Q _ => ∃ (a : Addr) (ns : List Int), vs = [.ref a] ∧ SqL K H a (ns.map V.int) ∧ ns.length ≤ 63 ∧
  ∀ s H', H s = none → StrAt [] H' s → Adv [] H H' → Q (.ref s) H'
theorem ok_law_stream (A : All K mg w) : FnOk P w K mg base CX0 1 A.law_stream.f A.law_stream.fd ["script"] (spStream K) := by
  refine A.law_stream.F.ok sc_law_stream (fun vs H Q E h => ?_) (fun cdv Ar outer s H vs Q E hr h => ?_)
  · obtain ⟨a, ns, rfl, _⟩ := h
    rfl
  · obtain ⟨a, ns, rfl, hS, hl, q⟩ := h
    refine ⟨_, pss_one (ps_ret (pe_lst (pa_cons (pe_callTy call_list_of (by rfl) A.T.list (by decide +kernel) (pa_cons (pv 0) pa_nil)) (pa_cons pe_int (pa_cons pe_int pa_nil))))), ?_⟩
    refine ⟨_, rfl, a, _, rfl, .inl hS, fun l nl => ?_⟩
    refine ⟨by show 3 ≤ sizeLine; decide, fun p np => ?_⟩
    have npl : l ≠ p := fun z => by rw [← z, upd_same] at np; cases np
    have np0 : H p = none := by rw [upd_ne npl.symm] at np; exact np
    refine q p _ np0 ⟨l, ns, 0, 0, upd_same, by rw [upd_ne npl, upd_same], Int.le_refl _, Int.le_refl _, by simp⟩ ?_
    exact Adv.trans (Adv.new nl) (Adv.new np)
/-! ### _law_next -/
def spNext : Sp := fun vs H Q _ => ∃ (s : Addr) (many : Int) (M : List Addr), vs = [.ref s, .int many] ∧ StrAt M H s ∧ 0 < many ∧ many < 1073741824 ∧
  ∀ d H', 0 ≤ d → d < many → StrAt M H' s → Adv [s] H H' → Q (.int d) H'
theorem ok_law_next (A : All K mg w) : FnOk P w K mg base CX0 1 A.law_next.f A.law_next.fd ["stream", "many"] spNext := by
  refine A.law_next.F.ok sc_law_next (fun vs H Q E h => ?_) (fun cdv Ar outer s H vs Q E hr h => ?_)
  · obtain ⟨a, ns, M, rfl, _⟩ := h
    rfl
  · obtain ⟨s, many, M, rfl, ⟨l, ns, c, k, hs, hl, hc, hk, hlM⟩, hm, hm2, q⟩ := h
    refine ⟨_, (pss_cut (ps_if (pt_cmpR op_eq (pe_ix ix_list (pv 0) pe_int (fun _ _ => rfl)) pe_int (nomark _))
      (pss_cons (ps_set (i := 2) sc_law_next.nd rfl (Or.inl rfl) (pe_ix ix_list (pv 0) pe_int (fun _ _ => rfl)))
      (pss_cons (ps_set (i := 3) sc_law_next.nd rfl (Or.inl rfl) (pe_op op_add pe_int (pv 2)))
      (pss_cut (ps_if (pt_cmpR op_lt (pv 2) (pe_callB call_len_seq (by rfl) A.T.len PySem.boot_len (pa_cons (pe_ix ix_list (pv 0) pe_int (fun _ _ => rfl)) pa_nil)) (nomark _))
        (pss_one (ps_set (i := 3) sc_law_next.nd rfl (Or.inl rfl) (pe_callB call_abs (by rfl) A.T.abs (by decide +kernel) (pa_cons (pe_ix ix_list (pe_ix ix_list (pv 0) pe_int (fun _ _ => rfl)) (pv 2) (fun _ _ => rfl)) pa_nil))))
        pss_nil)
      (pss_cut (ps_if (pt_cmpR op_lt (pv 3) (pe_op op_pow pe_int pe_int) (nomark _))
        (pss_cons (ps_set (i := 3) sc_law_next.nd rfl (Or.inl rfl) (pe_op op_mod (pe_callTy call_int1 (by rfl) A.T.int (by decide +kernel) (pa_cons (pe_op op_add (pe_op op_add (pe_op op_mul (pv 3) pe_int) (pe_op op_mul (pv 2) pe_int)) pe_int) pa_nil)) pe_int))
        (pss_one (ps_set (i := 3) sc_law_next.nd rfl (Or.inl rfl) (pe_op op_add (pe_op op_mul (pe_op op_mod (pe_callTy call_int1 (by rfl) A.T.int (by decide +kernel) (pa_cons (pe_op op_add (pe_op op_mul (pv 3) pe_int) pe_int) pa_nil)) pe_int) pe_int) (pv 3)))))
        pss_nil)
      (pss_cons (ps_asg (pv 3) (pg_sub (pv 0) pe_int set_list))
      (pss_one (ps_asg (pe_op op_add (pv 2) pe_int) (pg_sub (pv 0) pe_int set_list))))))))
      pss_nil)
      (pss_cons (ps_set (i := 4) sc_law_next.nd rfl (Or.inl rfl) (pe_op op_mod (pe_callTy call_int1 (by rfl) A.T.int (by decide +kernel) (pa_cons (pe_ix ix_list (pv 0) pe_int (fun _ _ => rfl)) pa_nil)) (pv 1)))
      (pss_cons (ps_asg (pe_op op_fdiv (pe_ix ix_list (pv 0) pe_int (fun _ _ => rfl)) (pv 1)) (pg_sub (pv 0) pe_int set_list))
      (pss_one (ps_ret (pv 4)))))), ?_⟩
    have at0 : ∀ c k : Int, atI [V.ref l, .int c, .int k] 0 = some (.ref l) := fun _ _ => atI_nat (j := 0) rfl
    have at1 : ∀ c k : Int, atI [V.ref l, .int c, .int k] 1 = some (.int c) := fun _ _ => atI_nat (j := 1) rfl
    have at2 : ∀ c k : Int, atI [V.ref l, .int c, .int k] 2 = some (.int k) := fun _ _ => atI_nat (j := 2) rfl
    have nls : l ≠ s := ne_of hl hs ne_lst_ints.symm
    refine ⟨fun σ' H' => ∃ (c k : Int) (v2 v3 : Option V), σ' = [some (.ref s), some (.int many), v2, v3, none] ∧ H' s = some (.lst [V.ref l, .int c, .int k]) ∧ 0 ≤ c ∧ 0 ≤ k ∧ Adv [s] H H', ?_, ?_⟩
    · refine ⟨_, rfl, s, _, 1, _, rfl, rfl, SqL.of hs, at1 c k, rfl, _, rfl, ?_⟩
      refine iteB (fun e => ?_) (fun e => ⟨c, k, none, none, rfl, hs, hc, hk, Adv.refl _ _⟩)
      -- a new cell
      refine ⟨_, rfl, s, _, 2, _, rfl, rfl, SqL.of hs, at2 c k, ?_⟩
      refine ⟨_, rfl, 7, k, rfl, rfl, ?_⟩
      refine ⟨fun σ' H' => ∃ c1 : Int, σ' = [some (.ref s), some (.int many), some (.int k), some (.int c1), none] ∧ H = H' ∧ 0 ≤ c1, ?_, ?_⟩
      · refine ⟨_, rfl, _, rfl, s, _, 0, _, rfl, rfl, SqL.of hs, at0 c k, l, _, rfl, .inl (SqL.of hl), k, _, rfl, rfl, _, rfl, ?_⟩
        refine iteB (fun e => ?_) (fun e => ⟨7 + k, rfl, rfl, by omega⟩)
        have hlt : k < ns.length := by simpa using e
        obtain ⟨j, rfl⟩ : ∃ j : Nat, k = (j : Int) := ⟨k.toNat, by omega⟩
        have hj : j < ns.length := by omega
        have hg : (ns.map V.int)[j]? = some (.int ns[j]) := by simp [hj]
        refine ⟨_, rfl, s, _, 0, _, rfl, rfl, SqL.of hs, at0 c _, _, rfl, l, _, (j : Int), _, rfl, rfl, SqL.of hl, atI_nat hg, _, rfl, ?_⟩
        refine ⟨_, rfl, rfl, ?_⟩
        split <;> omega
      · rintro σ' H' ⟨c1, rfl, rfl, hc1⟩
        refine ⟨fun σ' H' => ∃ c1 : Int, σ' = [some (.ref s), some (.int many), some (.int k), some (.int c1), none] ∧ H = H' ∧ 0 ≤ c1, ?_, ?_⟩
        · refine ⟨_, rfl, 10, 18, rfl, rfl, ⟨by decide, by decide, by decide⟩, c1, _, rfl, rfl, _, rfl, ?_⟩
          refine iteB (fun e => ?_) (fun e => ⟨c1, rfl, rfl, hc1⟩)
          refine ⟨_, rfl, c1, 48271, rfl, rfl, .inr ⟨by decide, by decide⟩, _, rfl, k, 69621, rfl, rfl, .inr ⟨by decide, by decide⟩, _, _, rfl, rfl, _, _, rfl, rfl, .inl ⟨_, rfl, _, 2147483647, rfl, rfl, by show (0 : Int) < 2147483647; decide, ?_⟩⟩
          refine ⟨_, rfl, _, 16807, rfl, rfl, .inr ⟨by decide, by decide⟩, _, _, rfl, rfl, .inl ⟨_, rfl, _, 2147483647, rfl, rfl, by show (0 : Int) < 2147483647; decide, ?_⟩⟩
          refine ⟨_, _, rfl, rfl, .inr ⟨by decide, by decide⟩, _, rfl, _, _, rfl, rfl, ?_⟩
          refine ⟨_, rfl, rfl, ?_⟩
          omega
        · rintro σ' H' ⟨c2, rfl, rfl, hc2⟩
          refine ⟨_, rfl, _, rfl, s, _, 1, 1, rfl, rfl, hs, rfl, ?_⟩
          refine ⟨_, rfl, k, 1, rfl, rfl, _, rfl, s, _, 2, 2, rfl, rfl, upd_same, rfl, ?_⟩
          refine ⟨c2, k + 1, _, _, rfl, ?_, hc2, by omega, ?_⟩
          · rw [upd_same]
            rfl
          · exact ((Adv.refl _ _).setT (by simp)).setT (by simp)
    · rintro σ' H1 ⟨c, k, v2, v3, rfl, h1, hc, hk, a⟩
      refine ⟨_, rfl, s, _, 1, _, rfl, rfl, SqL.of h1, at1 c k, .inl ⟨c, rfl, _, rfl, c, many, rfl, rfl, hm, ?_⟩⟩
      refine ⟨_, rfl, s, _, 1, _, rfl, rfl, SqL.of h1, at1 c k, _, rfl, c, many, rfl, rfl, ⟨hm, hm2⟩, ?_⟩
      refine ⟨_, rfl, s, _, 1, 1, rfl, rfl, h1, rfl, ?_⟩
      refine ⟨_, rfl, ?_⟩
      have hl1 : H1 l = some (.lst (ns.map V.int)) := a _ _ (by simpa using nls) hl
      refine q _ _ (Int.emod_nonneg _ (Int.ne_of_gt hm)) (Int.emod_lt_of_pos _ hm) ⟨l, ns, c / many, k, upd_same, by rw [upd_ne nls]; exact hl1, Int.ediv_nonneg hc (Int.le_of_lt hm), hk, hlM⟩ ?_
      exact a.setT (by simp)
/-! ### _law_pick: out of a list, out of a tuple -/
def spPick : Sp := fun vs H Q _ => ∃ (s r : Addr) (xs : List V) (M : List Addr), vs = [.ref s, .ref r] ∧ StrAt M H s ∧ (H r = some (.lst xs) ∨ H r = some (.tup xs)) ∧ r ≠ s ∧ xs ≠ [] ∧ xs.length < 1073741824 ∧
  ∀ x H', x ∈ xs → StrAt M H' s → Adv [s] H H' → Q x H'
theorem ok_law_pick (A : All K mg w) : FnOk P w K mg base CX0 2 A.law_pick.f A.law_pick.fd ["stream", "rows"] spPick := by
  refine A.law_pick.F.ok sc_law_pick (fun vs H Q E h => ?_) (fun cdv Ar outer s H vs Q E hr h => ?_)
  · obtain ⟨s, r, xs, M, rfl, _⟩ := h
    rfl
  · obtain ⟨s, r, xs, M, rfl, hs, hx, nrs, hne, hl, q⟩ := h
    refine ⟨_, pss_one (ps_ret (pe_ix (ix_or ix_list ix_tup) (pv 1) (pe_call (ok_law_next A) (hr.mono (by decide)) rfl A.law_next.m A.law_next.F.kp A.law_next.b .nil pass0 (pa_cons (pv 0) (pa_cons (pe_callB call_len_seq (by rfl) A.T.len PySem.boot_len (pa_cons (pv 1) pa_nil)) pa_nil))) (fun _ _ => rfl))), ?_⟩
    have hpos : 0 < xs.length := List.length_pos_iff.mpr hne
    refine ⟨_, rfl, _, rfl, _, rfl, r, xs, rfl, ?_, s, _, M, rfl, hs, by omega, by omega, fun d H' h0 h1 hs' a => ?_⟩
    · rcases hx with h | h
      · exact .inl (SqL.of h)
      · exact .inr (SqT.of h)
    · obtain ⟨j, rfl⟩ : ∃ j : Nat, d = (j : Int) := ⟨d.toNat, by omega⟩
      have hj : j < xs.length := by omega
      have hg : xs[j]? = some xs[j] := List.getElem?_eq_getElem hj
      have nm : r ∉ [s] := by simpa using nrs
      rcases hx with h | h
      · exact .inl ⟨r, xs, j, xs[j], rfl, rfl, SqL.of (a _ _ nm h), atI_nat hg, q _ _ (List.getElem_mem hj) hs' a⟩
      · exact .inr ⟨r, xs, j, xs[j], rfl, rfl, SqT.of (a _ _ nm h), atI_nat hg, q _ _ (List.getElem_mem hj) hs' a⟩
/-! ### _law_from -/
def spFrom : Sp := fun vs H Q _ => ∃ (s : Addr) (lo hi : Int) (M : List Addr), vs = [.ref s, .int lo, .int hi] ∧ StrAt M H s ∧ lo ≤ hi ∧ hi - lo < 1073741823 ∧
  ∀ d H', lo ≤ d → d ≤ hi → StrAt M H' s → Adv [s] H H' → Q (.int d) H'
theorem ok_law_from (A : All K mg w) : FnOk P w K mg base CX0 2 A.law_from.f A.law_from.fd ["stream", "low", "high"] spFrom := by
  refine A.law_from.F.ok sc_law_from (fun vs H Q E h => ?_) (fun cdv Ar outer s H vs Q E hr h => ?_)
  · obtain ⟨s, lo, hi, M, rfl, _⟩ := h
    rfl
  · obtain ⟨s, lo, hi, M, rfl, hs, h1, h2, q⟩ := h
    refine ⟨_, pss_one (ps_ret (pe_op op_add (pv 1) (pe_call (ok_law_next A) (hr.mono (by decide)) rfl A.law_next.m A.law_next.F.kp A.law_next.b .nil pass0 (pa_cons (pv 0) (pa_cons (pe_op op_add (pe_op op_sub (pv 2) (pv 1)) pe_int) pa_nil))))), ?_⟩
    refine ⟨_, rfl, _, rfl, _, rfl, _, rfl, hi, lo, rfl, rfl, _, _, rfl, rfl, s, _, M, rfl, hs, by omega, by omega, fun d H' h0 h1 hs' a => ?_⟩
    exact ⟨lo, d, rfl, rfl, q _ _ (by omega) (by omega) hs' a⟩
end
end K59

set_option Elab.async false
set_option linter.all false
set_option maxRecDepth 100000
set_option maxHeartbeats 4000000
namespace K59
open PySem PySem.Spec PyProof.Rows L2 LL
open C8 (pss_cut)
section
variable [KW]
variable {P : Program} {w : World} {K : PySem.W.Frag} {mg : Str → Option Value} {base : Heap}
/-! ### is_integer, is_between -/
def spIsInteger : Sp := fun vs H Q _ => ∃ (v : V) (d : PyData), vs = [v] ∧ Is [] H d v ∧ Q (.bl (kitD d "int" && !kitD d "bool")) H
theorem ok_is_integer (A : All K mg w) : FnOk P w K mg base CX0 1 A.is_integer.f A.is_integer.fd ["value"] spIsInteger := by
  refine A.is_integer.F.ok sc_is_integer (fun vs H Q E h => ?_) (fun cdv Ar outer s H vs Q E hr h => ?_)
  · obtain ⟨v, d, rfl, _⟩ := h
    rfl
  · obtain ⟨v, d, rfl, hv, q⟩ := h
    refine ⟨_, (pss_one (ps_ret (pe_and (pe_callB call_isi (by rfl) A.T.isinstance (by decide +kernel) (pa_cons (pv 0) (pa_cons (pe_bltn (v := .ty "int") (by rfl) A.T.int (by decide +kernel) rfl) pa_nil))) (pe_one (pe_not (pe_callB call_isi (by rfl) A.T.isinstance (by decide +kernel) (pa_cons (pv 0) (pa_cons (pe_bltn (v := .ty "bool") (by rfl) A.T.bool (by decide +kernel) rfl) pa_nil)))))))), ?_⟩
    refine ⟨_, rfl, _, _, _, _, _, rfl, .ty _, hv.ty A.W, k_int d, _, rfl, iteB (fun e => ?_) (fun e => ?_)⟩
    · refine ⟨_, rfl, _, _, _, _, _, rfl, .ty _, hv.ty A.W, k_bool d, _, rfl, ?_⟩
      rw [e, Bool.true_and] at q
      exact q
    · rw [e, Bool.false_and] at q
      exact q
theorem isNum_of (d : PyData) (lo hi : Int) : (if (kitD d "int" && !kitD d "bool") = true then isNum lo hi d else false) = isNum lo hi d := by
  cases d <;> simp [kitD, isNum, tyN]
def spIsBetween : Sp := fun vs H Q _ => ∃ (v : V) (d : PyData) (lo hi : Int), vs = [v, .int lo, .int hi] ∧ Is [] H d v ∧ Q (.bl (isNum lo hi d)) H
theorem ok_is_between (A : All K mg w) : FnOk P w K mg base CX0 2 A.is_between.f A.is_between.fd ["value", "low", "high"] spIsBetween := by
  refine A.is_between.F.ok sc_is_between (fun vs H Q E h => ?_) (fun cdv Ar outer s H vs Q E hr h => ?_)
  · obtain ⟨v, d, lo, hi, rfl, _⟩ := h
    rfl
  · obtain ⟨v, d, lo, hi, rfl, hv, q⟩ := h
    refine ⟨_, (pss_one (ps_ret (pe_and (pe_call (ok_is_integer A) (hr.mono (by decide)) rfl A.is_integer.m A.is_integer.F.kp A.is_integer.b .nil pass0 (pa_cons (pv 0) pa_nil)) (pe_one (pe_chain op_le op_le (pv 1) (pv 0) (pv 2)))))), ?_⟩
    rw [← isNum_of] at q
    refine ⟨_, rfl, v, d, rfl, hv, _, rfl, iteB (fun e => ?_) (fun e => ?_)⟩
    · rw [if_pos e] at q
      cases d with
      | int i =>
        cases hv.intE
        refine ⟨_, rfl, _, rfl, lo, i, rfl, rfl, _, rfl, iteB (fun e1 => ?_) (fun e1 => ?_)⟩
        · refine ⟨_, rfl, i, hi, rfl, rfl, ?_⟩
          have q' : Q (.bl (decide (lo ≤ i) && decide (i ≤ hi))) H := q
          rw [e1, Bool.true_and] at q'
          exact q'
        · have q' : Q (.bl (decide (lo ≤ i) && decide (i ≤ hi))) H := q
          rw [e1, Bool.false_and] at q'
          exact q'
      | _ => simp [kitD, tyN] at e
    · rw [if_neg (by rw [e]; decide)] at q
      exact q
/-! ### _law_number -/
theorem ok_law_number (A : All K mg w) : FnOk P w K mg base CX0 1 A.law_number.f A.law_number.fd ["value", "low", "high"] spIsBetween := by
  refine A.law_number.F.ok sc_law_number (fun vs H Q E h => ?_) (fun cdv Ar outer s H vs Q E hr h => ?_)
  · obtain ⟨v, d, lo, hi, rfl, _⟩ := h
    rfl
  · obtain ⟨v, d, lo, hi', rfl, hv, q⟩ := h
    refine ⟨_, (pss_cons (ps_if (PW.pt (pw_or (pt_not (pt_val (pe_callB call_isi (by rfl) A.T.isinstance (by decide +kernel) (pa_cons (pv 0) (pa_cons (pe_bltn (v := .ty "int") (by rfl) A.T.int (by decide +kernel) rfl) pa_nil))))) (pw_or1 (pt_val (pe_callB call_isi (by rfl) A.T.isinstance (by decide +kernel) (pa_cons (pv 0) (pa_cons (pe_bltn (v := .ty "bool") (by rfl) A.T.bool (by decide +kernel) rfl) pa_nil)))))))
    (pss_one (ps_ret pe_bl))
    pss_nil)
  (pss_one (ps_ret (pe_and (pe_cmpR op_le (pv 1) (pv 0) (nomark _)) (pe_one (pe_cmpR op_le (pv 0) (pv 2) (nomark _))))))), ?_⟩
    rw [← isNum_of] at q
    refine ⟨_, rfl, _, _, _, _, _, rfl, .ty _, hv.ty A.W, k_int d, _, rfl, ?_⟩
    cases hi : kitD d "int" with
    | false =>
      refine iteY rfl ?_
      rw [hi] at q
      exact q
    | true =>
      refine iteN rfl ?_
      refine ⟨_, rfl, _, _, _, _, _, rfl, .ty _, hv.ty A.W, k_bool d, _, rfl, ?_⟩
      cases hb : kitD d "bool" with
      | true =>
        refine iteY rfl ?_
        rw [hi, hb] at q
        exact q
      | false =>
        refine iteN rfl ?_
        rw [hi, hb] at q
        cases d with
        | int i =>
          cases hv.intE
          refine ⟨_, rfl, _, rfl, lo, i, rfl, rfl, _, rfl, iteB (fun e1 => ?_) (fun e1 => ?_)⟩
          · refine ⟨_, rfl, _, rfl, i, hi', rfl, rfl, ?_⟩
            have q' : Q (.bl (decide (lo ≤ i) && decide (i ≤ hi'))) H := q
            rw [e1, Bool.true_and] at q'
            exact q'
          · have q' : Q (.bl (decide (lo ≤ i) && decide (i ≤ hi'))) H := q
            rw [e1, Bool.false_and] at q'
            exact q'
        | _ => simp [kitD, tyN] at hi hb
/-! ### is_boxed, _law_is_boxed, check_logic of a right logic -/
def logicB (x : Str) : Bool := x = "k" || x = "s4" || x = "gl"
def logicOk (x : Str) : Bool := x = "classical" || x = "intuit" || x = "k" || x = "s4" || x = "gl"
theorem inV_strs (x : Str) (ws : List Str) : inV (.str x) (ws.map V.str) = ws.any fun y => decide (x = y) := by
  unfold inV
  rw [List.any_map]
  congr 1
  funext y
  show (y == x) = decide (x = y)
  by_cases h : x = y
  · subst h; simp
  · have h2 : ¬ y = x := fun z => h z.symm
    simp [h, h2]
def spIsBoxed : Sp := fun vs H Q _ => ∃ (x : Str), vs = [.str x] ∧ ∀ H', Adv [] H H' → Q (.bl (logicB x)) H'
end
end K59

set_option Elab.async false
set_option linter.all false
set_option maxRecDepth 100000
set_option maxHeartbeats 4000000
namespace K59
open PySem PySem.Spec PyProof.Rows L2 LL
open C8 (pss_cut)
theorem cut_from1 (xs : List V) : cutV xs (some 1) none = xs.drop 1 := by
  unfold cutV
  rw [show HT.sIx xs.length 0 (some 1) = min 1 xs.length from HT.sIx_nat xs.length 0 1, HT.sIx_none]
  cases xs with
  | nil => rfl
  | cons x r =>
    have e : min 1 (x :: r).length = 1 := by rw [List.length_cons]; omega
    rw [e]
    simp
theorem all_id (bs : List Bool) (f : PyData → Bool) (ds : List PyData) (h : bs = ds.map f) : bs.all id = ds.all f := by
  rw [h, List.all_map]
  rfl
section
variable [KW]
variable {P : Program} {w : World} {K : PySem.W.Frag} {mg : Str → Option Value} {base : Heap}
def spIsNode : Sp := fun vs H Q _ => ∃ (v : V) (d : PyData) (row : Int) (boxed : Bool), vs = [v, .int row, .bl boxed] ∧ Is [] H d v ∧ ∀ H', Adv [] H H' → Q (.bl (nodeB boxed row d)) H'
theorem ok_is_node (A : All K mg w) : FnOk P w K mg base CX0 3 A.is_node.f A.is_node.fd ["value", "row", "boxed"] spIsNode := by
  refine A.is_node.F.ok sc_is_node (fun vs H Q E h => ?_) (fun cdv Ar outer s H vs Q E hr h => ?_)
  · obtain ⟨v, d, row, boxed, rfl, _⟩ := h
    rfl
  · obtain ⟨v, d, row, boxed, rfl, hv, q⟩ := h
    obtain ⟨tL, mL⟩ := A.C.last
    obtain ⟨ai, es, n, mi, KD, hi⟩ := A.C.items
    refine ⟨_, (pss_cons (ps_if (PW.pt (pw_or (pt_not (pt_val (pe_callB call_isi (by rfl) A.T.isinstance (by decide +kernel) (pa_cons (pv 0) (pa_cons (pe_bltn (v := .ty "tuple") (by rfl) A.T.tuple (by decide +kernel) rfl) pa_nil))))) (pw_or (pt_cmpR op_eq (pe_callB call_len_seq (by rfl) A.T.len PySem.boot_len (pa_cons (pv 0) pa_nil)) pe_int (nomark _)) (pw_or1 (pt_not (pt_val (pe_callB call_isi (by rfl) A.T.isinstance (by decide +kernel) (pa_cons (pe_ix ix_tup (pv 0) pe_int (fun _ _ => rfl)) (pa_cons (pe_bltn (v := .ty "str") (by rfl) A.T.str (by decide +kernel) rfl) pa_nil)))))))))
    (pss_one (ps_ret pe_bl))
    pss_nil)
  (pss_cons (ps_set (i := 3) sc_is_node.nd rfl (Or.inl rfl) (pe_ix ix_tup (pv 0) pe_int (fun _ _ => rfl)))
  (pss_cons (ps_if (pt_cmpR op_ne (pe_kget (pe_glob (v := .ref ai) rfl mi rfl) (pv 3) ⟨rfl, rfl, rfl, rfl⟩) (pe_callB call_len_seq (by rfl) A.T.len PySem.boot_len (pa_cons (pv 0) pa_nil)) (nomark _))
    (pss_one (ps_ret pe_bl))
    pss_nil)
  (pss_cons (ps_if (pt_cmpR op_eq (pv 3) pe_str (nomark _))
    (pss_one (ps_ret (pe_call (ok_is_between A) (hr.mono (by omega)) rfl A.is_between.m A.is_between.F.kp A.is_between.b .nil pass0 (pa_cons (pe_ix ix_tup (pv 0) pe_int (fun _ _ => rfl)) (pa_cons pe_int (pa_cons (pe_glob (v := .int 7) rfl mL ⟨_, rfl⟩) pa_nil))))))
    pss_nil)
  (pss_cons (ps_if (PW.pt (pw_and (pt_cmpR op_eq (pv 3) pe_str (nomark _)) (pw_and1 (pt_not (pt_val (pv 2))))))
    (pss_one (ps_ret pe_bl))
    pss_nil)
  (pss_one (ps_ret (pe_callB (cr_all rfl) (by rfl) A.T.all (by decide +kernel) (pa_cons (pe_lc (own := [("part", 4)]) (g := gName 4) rfl sc_is_node.nd (pi_tup (pe_slice sl_tup (pv 0) (po_some pe_int) po_none)) (blkOk_by (own := [("part", 4)]) (N := ["value", "row", "boxed", "word", "part"]) (sc := defScope s_is_node) (by decide +kernel)) (fun _ _ _ _ _ => pg_name (i := 4) sc_is_node.nd rfl (Or.inl rfl)) (fun _ _ _ _ _ => pts_nil) (fun _ _ _ _ _ => (pe_call (ok_is_between A) (hr.mono (by omega)) rfl A.is_between.m A.is_between.F.kp A.is_between.b .nil pass0 (pa_cons (pv 4) (pa_cons pe_int (pa_cons (pe_op op_sub (pv 1) pe_int) pa_nil)))))) pa_nil))))))))), ?_⟩
    have no : ¬ (∃ ds, d = .tuple ds) → kitD d "tuple" = false ∧ nodeB boxed row d = false := fun h => by
      cases d with
      | tuple ds => exact absurd ⟨ds, rfl⟩ h
      | _ => exact ⟨by simp [kitD, tyN], rfl⟩
    refine ⟨_, rfl, _, _, _, _, _, rfl, .ty _, hv.ty A.W, k_tuple d, _, rfl, ?_⟩
    by_cases ht : ∃ ds, d = .tuple ds
    case neg =>
      obtain ⟨e1, e2⟩ := no ht
      refine iteY (by rw [e1]; rfl) (iteY rfl ?_)
      have q' := q H (Adv.refl _ _)
      rw [e2] at q'
      exact q'
    obtain ⟨ds, rfl⟩ := ht
    refine iteN (by simp [kitD, tyN]) ?_
    obtain ⟨a, vs, rfl, htp, hs⟩ := hv.tupE
    refine ⟨_, rfl, a, vs, rfl, .inr (htp.sq A.W), rfl, _, rfl, ?_⟩
    cases ds with
    | nil =>
      have e0 : vs = [] := by unfold IsDs at hs; exact hs
      subst e0
      exact iteY rfl (iteY rfl (q H (Adv.refl _ _)))
    | cons d0 ps =>
      have hlen := hs.len
      have hs' := hs
      unfold IsDs at hs
      obtain ⟨v0, rs, rfl, h0, hps⟩ := hs
      refine iteN (by simp [List.length_cons]; omega) ?_
      refine ⟨_, rfl, a, _, 0, v0, rfl, rfl, htp.sq A.W, atI_nat (j := 0) rfl, _, _, _, _, _, rfl, .ty _, h0.ty A.W, k_str d0, _, rfl, ?_⟩
      by_cases hw : ∃ w, d0 = .str w
      case neg =>
        have e1 : kitD d0 "str" = false := by
          cases d0 with
          | str x => exact absurd ⟨x, rfl⟩ hw
          | _ => simp [kitD, tyN]
        have e2 : nodeB boxed row (.tuple (d0 :: ps)) = false := by
          cases d0 with
          | str x => exact absurd ⟨x, rfl⟩ hw
          | _ => rfl
        refine iteY (by rw [e1]; rfl) ?_
        have q' := q H (Adv.refl _ _)
        rw [e2] at q'
        exact q'
      obtain ⟨wd, rfl⟩ := hw
      cases h0.strE
      refine iteN (by simp [kitD, tyN]) ?_
      -- word = value[0]
      refine ⟨_, rfl, a, _, 0, _, rfl, rfl, htp.sq A.W, atI_nat (j := 0) rfl, ?_⟩
      -- ITEMS.get(word) != len(value)
      obtain ⟨r, er, rr⟩ := hi wd
      refine ⟨ai, es, n, rfl, KD, _, rfl, wd, r, _, rfl, er, rr, _, rfl, a, _, rfl, .inr (htp.sq A.W), ?_, _, rfl, ?_⟩
      · cases nItems wd <;> rfl
      have hl2 : rs.length = ps.length := hps.len
      have hnode : nodeB boxed row (.tuple (.str wd :: ps)) = (if nItems wd = some (ps.length + 1) then (if wd = "letter" then ps.all (isNum 0 7) else if wd = "box" && !boxed then false else ps.all (isNum 0 (row - 1))) else false) := rfl
      rw [hnode] at q
      by_cases hn : nItems wd = some (ps.length + 1)
      case neg =>
        rw [if_neg hn] at q
        refine iteY ?_ (q H (Adv.refl _ _))
        cases en : nItems wd with
        | none => rfl
        | some k =>
          have hk : ¬ k = ps.length + 1 := fun z => hn (by rw [en, z])
          simp [hl2]
          omega
      rw [if_pos hn] at q
      refine iteN (by rw [hn]; simp [hl2]) ?_
      -- word == 'letter'
      refine ⟨_, rfl, rfl, _, rfl, ?_⟩
      by_cases hlet : wd = "letter"
      · subst hlet
        rw [if_pos rfl] at q
        refine iteY (by simp) ?_
        have h2 : ps.length = 1 := by
          have e : nItems "letter" = some 2 := by decide +kernel
          rw [e] at hn
          have := Option.some.inj hn
          omega
        obtain ⟨p, rfl⟩ : ∃ p, ps = [p] := List.length_eq_one_iff.mp h2
        unfold IsDs at hps
        obtain ⟨v1, r1, rfl, h1, hn1⟩ := hps
        refine ⟨_, rfl, a, _, 1, v1, rfl, rfl, htp.sq A.W, atI_nat (j := 1) rfl, v1, p, 0, 7, rfl, h1, ?_⟩
        have q' := q H (Adv.refl _ _)
        simpa using q'
      · rw [if_neg hlet] at q
        refine iteN (by simp [hlet]) ?_
        refine ⟨_, rfl, rfl, _, rfl, ?_⟩
        have go : (wd = "box" && !boxed) = false → tRet (tCB (rAll K) (tCons (tLc (iTup K (tSl (rSlT K) (tVar 0) (tPart (tC (.int 1))) tNoPart)) (gName 4) tYes (tCall spIsBetween [] E0 (tCons (tVar 4) (tCons (tC (.int 0)) (tCons (tOp (rI0 fun i j => .int (i - j)) (tVar 1) (tC (.int 1))) tNil)))) [4]) tNil)) { nx := fun _ H' => Q .non H', rt := Q } [some (.ref a), some (.int row), some (.bl boxed), some (.str wd), none] H := fun hb => by
          rw [if_neg (by rw [hb]; decide)] at q
          refine ⟨_, rfl, 1, rfl, a, _, rfl, htp.sq A.W, ?_, fun p np => ?_⟩
          · intro z
            have z1 := z.1
            rw [show HT.sIx (V.str wd :: rs).length 0 (some 1) = min 1 (V.str wd :: rs).length from HT.sIx_nat _ 0 1, List.length_cons] at z1
            omega
          · rw [cut_from1]
            refine ⟨p, rfl, ⟨_, SqT.of upd_same⟩, fun D nD => ?_⟩
            have aP : Adv [] H (upd H p (.tup rs)) := Adv.new np
            refine lc_mapT (K := K) (a := p) (xs := rs) (fun i => V.bl (isNum 0 (row - 1) (ps.getD i .none))) nD (SqT.of upd_same) ?_ ?_ ?_
            · have : ps.length ≤ 3 := by
                unfold nItems at hn
                repeat' (split at hn)
                all_goals first | (have := Option.some.inj hn; omega) | cases hn
              omega
            · intro i x H' acc R hx aH hD k
              have hip : i < ps.length := by rw [← hl2]; exact (List.getElem?_eq_some_iff.mp hx).1
              obtain ⟨dx, hdx, hisx⟩ := hps.getV hx
              have ed : ps.getD i .none = dx := by rw [List.getD_eq_getElem?_getD, hdx]; rfl
              refine ⟨rfl, x, rfl, _, rfl, row, 1, rfl, rfl, x, dx, 0, row - 1, rfl, (hisx.adv (aP.trans aH)), ?_⟩
              have k' := k H' hD aH
              rw [ed] at k'
              exact k'
            · intro H' aH hD
              refine ⟨D, ps.map (isNum 0 (row - 1)), rfl, .inl (.inl ?_), ?_⟩
              · rw [hD, hl2, range_map_list]
              · have q' := q H' (aP.trans aH)
                rw [all_id _ (isNum 0 (row - 1)) ps rfl]
                exact q'
        by_cases hbx : wd = "box"
        · subst hbx
          refine iteY (by simp) ⟨_, rfl, _, rfl, ?_⟩
          cases boxed with
          | true => exact iteN rfl (go (by simp))
          | false =>
            rw [if_pos (by simp)] at q
            exact iteY rfl (q H (Adv.refl _ _))
        · refine iteN (by simp [hbx]) ?_
          exact go (by simp [hbx])
end
end K59

set_option Elab.async false
set_option linter.all false
set_option maxRecDepth 100000
set_option maxHeartbeats 4000000
namespace K59
open PySem PySem.Spec PyProof.Rows L2 LL
open C8 (pss_cut)
theorem filt_none (f : PyData → Bool) (ps : List PyData) (n : Nat) (h : n = ps.length) (ys : Nat → V) : decide (V.int ((((List.range n).filter fun i => !f (ps.getD i .none)).map ys).length : Nat) = V.int 0) = ps.all f := by
  subst h
  rw [List.length_map]
  by_cases ha : ps.all f = true
  · rw [ha]
    have e : (List.range ps.length).filter (fun i => !f (ps.getD i .none)) = [] := by
      rw [List.filter_eq_nil_iff]
      intro i hi
      have hi' : i < ps.length := List.mem_range.mp hi
      have : f ps[i] = true := List.all_eq_true.mp ha _ (List.getElem_mem hi')
      simp [List.getD_eq_getElem?_getD, hi', this]
    rw [e]
    rfl
  · have hf : ps.all f = false := by simpa using ha
    rw [hf]
    have : ¬ ((List.range ps.length).filter (fun i => !f (ps.getD i .none))).length = 0 := fun z => by
      apply ha
      rw [List.all_eq_true]
      intro p hp
      obtain ⟨i, hi, rfl⟩ := List.getElem_of_mem hp
      have e0 := List.length_eq_zero_iff.mp z
      rw [List.filter_eq_nil_iff] at e0
      have := e0 i (List.mem_range.mpr hi)
      simpa [List.getD_eq_getElem?_getD, hi] using this
    simp only [decide_eq_false_iff_not]
    intro z
    have := V.int.inj z
    omega
def fiveB (x : Str) : Bool := x = "no" || x = "and" || x = "or" || x = "if" || x = "box"
theorem five_items {x : Str} (h : fiveB x = true) : nItems x = some (if x = "no" then 1 else if x = "box" then 2 else 3) := by
  unfold fiveB at h
  simp only [Bool.or_eq_true, decide_eq_true_eq] at h
  rcases h with (((rfl | rfl) | rfl) | rfl) | rfl <;> decide +kernel
theorem no_items {x : Str} (h : fiveB x = false) (hl : ¬ x = "letter") : nItems x = none := by
  unfold fiveB at h
  simp only [Bool.or_eq_false_iff, decide_eq_false_iff_not] at h
  obtain ⟨⟨⟨⟨h1, h2⟩, h3⟩, h4⟩, h5⟩ := h
  unfold nItems
  rw [if_neg hl, if_neg h1, if_neg h2, if_neg h3, if_neg h4, if_neg h5]
theorem val_items (x : Str) : (valV (mergeK [] [((Sum.inr "no" : Key), V.int 1), (Sum.inr "box", V.int 2)]) (Sum.inr x)).getD (V.int 3) = V.int ((if x = "no" then 1 else if x = "box" then 2 else 3 : Nat) : Int) := by
  have e : mergeK [] [((Sum.inr "no" : Key), V.int 1), (Sum.inr "box", V.int 2)] = [((Sum.inr "no" : Key), V.int 1), (Sum.inr "box", V.int 2)] := by decide +kernel
  rw [e]
  unfold valV
  rw [List.find?_cons, List.find?_cons, List.find?_nil]
  by_cases h1 : x = "no"
  · subst h1
    rw [if_pos rfl]
    have : decide ((Sum.inr ("no" : Str) : Key) = Sum.inr ("no" : Str)) = true := by decide +kernel
    rw [this]
    rfl
  · have n1 : decide (((Sum.inr "no" : Key)) = Sum.inr x) = false := decide_eq_false fun z => h1 (Sum.inr.inj z).symm
    rw [if_neg h1, n1]
    by_cases h2 : x = "box"
    · subst h2
      rw [if_pos rfl]
      have : decide ((Sum.inr ("box" : Str) : Key) = Sum.inr ("box" : Str)) = true := by decide +kernel
      rw [this]
      rfl
    · have n2 : decide (((Sum.inr "box" : Key)) = Sum.inr x) = false := decide_eq_false fun z => h2 (Sum.inr.inj z).symm
      rw [if_neg h2, n2]
      rfl
section
variable [KW]
variable {P : Program} {w : World} {K : PySem.W.Frag} {mg : Str → Option Value} {base : Heap}
theorem ok_law_is_node (A : All K mg w) : FnOk P w K mg base CX0 2 A.law_is_node.f A.law_is_node.fd ["value", "at", "modal"] spIsNode := by
  refine A.law_is_node.F.ok sc_law_is_node (fun vs H Q E h => ?_) (fun cdv Ar outer s H vs Q E hr h => ?_)
  · obtain ⟨v, d, row, boxed, rfl, _⟩ := h
    rfl
  · obtain ⟨v, d, row, boxed, rfl, hv, q⟩ := h
    refine ⟨_, (pss_cons (ps_if (PW.pt (pw_or (pt_not (pt_val (pe_callB call_isi (by rfl) A.T.isinstance (by decide +kernel) (pa_cons (pv 0) (pa_cons (pe_bltn (v := .ty "tuple") (by rfl) A.T.tuple (by decide +kernel) rfl) pa_nil))))) (pw_or (pt_cmpR op_eq (pe_callB call_len_seq (by rfl) A.T.len PySem.boot_len (pa_cons (pv 0) pa_nil)) pe_int (nomark _)) (pw_or1 (pt_not (pt_val (pe_callB call_isi (by rfl) A.T.isinstance (by decide +kernel) (pa_cons (pe_ix ix_tup (pv 0) pe_int (fun _ _ => rfl)) (pa_cons (pe_bltn (v := .ty "str") (by rfl) A.T.str (by decide +kernel) rfl) pa_nil)))))))))
    (pss_one (ps_ret pe_bl))
    pss_nil)
  (pss_cons (ps_set (i := 3) sc_law_is_node.nd rfl (Or.inl rfl) (pe_ix ix_tup (pv 0) pe_int (fun _ _ => rfl)))
  (pss_cons (ps_if (pt_cmpR op_eq (pv 3) pe_str (nomark _))
    (pss_one (ps_ret (pe_and (pe_cmpR op_eq (pe_callB call_len_seq (by rfl) A.T.len PySem.boot_len (pa_cons (pv 0) pa_nil)) pe_int (nomark _)) (pe_one (pe_call (ok_law_number A) (hr.mono (by omega)) rfl A.law_number.m A.law_number.F.kp A.law_number.b .nil pass0 (pa_cons (pe_ix ix_tup (pv 0) pe_int (fun _ _ => rfl)) (pa_cons pe_int (pa_cons pe_int pa_nil))))))))
    pss_nil)
  (pss_cons (ps_if (PW.pt (pw_or (pt_cmpR op_notIn_seq (pv 3) (pe_tup (pa_cons pe_str (pa_cons pe_str (pa_cons pe_str (pa_cons pe_str (pa_cons pe_str pa_nil)))))) rfl) (pw_or (PW.pt (pw_and (pt_cmpR op_eq (pv 3) pe_str (nomark _)) (pw_and1 (pt_not (pt_val (pv 2)))))) (pw_or1 (pt_cmpR op_ne (pe_callB call_len_seq (by rfl) A.T.len PySem.boot_len (pa_cons (pv 0) pa_nil)) (pe_dget2 (hu_of hr) (pe_disp (pps_cons pe_str pe_int (pps_cons pe_str pe_int pps_nil)) (by rfl) (by rfl) (fun z => by cases z) (by decide)) (pv 3) pe_int ⟨rfl, rfl, rfl, rfl⟩) (nomark _))))))
    (pss_one (ps_ret pe_bl))
    pss_nil)
  (pss_one (ps_ret (pe_cmpR op_eq (pe_callB call_len_seq (by rfl) A.T.len PySem.boot_len (pa_cons (pe_lc (own := [("part", 4)]) (g := gName 4) rfl sc_law_is_node.nd (pi_tup (pe_slice sl_tup (pv 0) (po_some pe_int) po_none)) (blkOk_by (own := [("part", 4)]) (N := ["value", "at", "modal", "word", "part"]) (sc := defScope s_law_is_node) (by decide +kernel)) (fun _ _ _ _ _ => pg_name (i := 4) sc_law_is_node.nd rfl (Or.inl rfl)) (fun _ _ _ _ _ => pts_one (pt_not (pt_val (pe_call (ok_law_number A) (hr.mono (by omega)) rfl A.law_number.m A.law_number.F.kp A.law_number.b .nil pass0 (pa_cons (pv 4) (pa_cons pe_int (pa_cons (pe_op op_sub (pv 1) pe_int) pa_nil))))))) (fun _ _ _ _ _ => (pv 4))) pa_nil)) pe_int (nomark _)))))))), ?_⟩
    have no : ¬ (∃ ds, d = .tuple ds) → kitD d "tuple" = false ∧ nodeB boxed row d = false := fun h => by
      cases d with
      | tuple ds => exact absurd ⟨ds, rfl⟩ h
      | _ => exact ⟨by simp [kitD, tyN], rfl⟩
    refine ⟨_, rfl, _, _, _, _, _, rfl, .ty _, hv.ty A.W, k_tuple d, _, rfl, ?_⟩
    by_cases ht : ∃ ds, d = .tuple ds
    case neg =>
      obtain ⟨e1, e2⟩ := no ht
      refine iteY (by rw [e1]; rfl) (iteY rfl ?_)
      have q' := q H (Adv.refl _ _)
      rw [e2] at q'
      exact q'
    obtain ⟨ds, rfl⟩ := ht
    refine iteN (by simp [kitD, tyN]) ?_
    obtain ⟨a, vs, rfl, htp, hs⟩ := hv.tupE
    refine ⟨_, rfl, a, vs, rfl, .inr (htp.sq A.W), rfl, _, rfl, ?_⟩
    cases ds with
    | nil =>
      have e0 : vs = [] := by unfold IsDs at hs; exact hs
      subst e0
      exact iteY rfl (iteY rfl (q H (Adv.refl _ _)))
    | cons d0 ps =>
      have hlen := hs.len
      unfold IsDs at hs
      obtain ⟨v0, rs, rfl, h0, hps⟩ := hs
      refine iteN (by simp [List.length_cons]; omega) ?_
      refine ⟨_, rfl, a, _, 0, v0, rfl, rfl, htp.sq A.W, atI_nat (j := 0) rfl, _, _, _, _, _, rfl, .ty _, h0.ty A.W, k_str d0, _, rfl, ?_⟩
      by_cases hw : ∃ w, d0 = .str w
      case neg =>
        have e1 : kitD d0 "str" = false := by
          cases d0 with
          | str x => exact absurd ⟨x, rfl⟩ hw
          | _ => simp [kitD, tyN]
        have e2 : nodeB boxed row (.tuple (d0 :: ps)) = false := by
          cases d0 with
          | str x => exact absurd ⟨x, rfl⟩ hw
          | _ => rfl
        refine iteY (by rw [e1]; rfl) ?_
        have q' := q H (Adv.refl _ _)
        rw [e2] at q'
        exact q'
      obtain ⟨wd, rfl⟩ := hw
      cases h0.strE
      refine iteN (by simp [kitD, tyN]) ?_
      refine ⟨_, rfl, a, _, 0, _, rfl, rfl, htp.sq A.W, atI_nat (j := 0) rfl, ?_⟩
      have hl2 : rs.length = ps.length := hps.len
      have hnode : nodeB boxed row (.tuple (.str wd :: ps)) = (if nItems wd = some (ps.length + 1) then (if wd = "letter" then ps.all (isNum 0 7) else if wd = "box" && !boxed then false else ps.all (isNum 0 (row - 1))) else false) := rfl
      rw [hnode] at q
      -- word == "letter"
      refine ⟨_, rfl, rfl, _, rfl, ?_⟩
      by_cases hlet : wd = "letter"
      · subst hlet
        refine iteY (by simp) ?_
        have e : nItems "letter" = some 2 := by decide +kernel
        rw [e, if_pos rfl] at q
        refine ⟨_, rfl, a, _, rfl, .inr (htp.sq A.W), rfl, _, rfl, ?_⟩
        by_cases h2 : ps.length = 1
        · rw [if_pos (by rw [h2])] at q
          refine iteY (by simp [hl2, h2]) ?_
          obtain ⟨p, rfl⟩ : ∃ p, ps = [p] := List.length_eq_one_iff.mp h2
          unfold IsDs at hps
          obtain ⟨v1, r1, rfl, h1, hn1⟩ := hps
          refine ⟨_, rfl, a, _, 1, v1, rfl, rfl, htp.sq A.W, atI_nat (j := 1) rfl, v1, p, 0, 7, rfl, h1, ?_⟩
          have q' := q H (Adv.refl _ _)
          simpa using q'
        · rw [if_neg (fun z => h2 (by have := Option.some.inj z; omega))] at q
          exact iteN (by simp [hl2]; omega) (q H (Adv.refl _ _))
      rw [if_neg hlet] at q
      refine iteN (by simp [hlet]) ?_
      -- word not in the five
      refine ⟨_, rfl, by show 5 ≤ sizeLine; decide, fun p np => ⟨p, _, rfl, .inr (SqT.of upd_same), rfl, by decide, _, rfl, ?_⟩⟩
      have a1 : Adv [] H (upd H p (.tup [.str "no", .str "and", .str "or", .str "if", .str "box"])) := Adv.new np
      have e5 : inV (.str wd) [.str "no", .str "and", .str "or", .str "if", .str "box"] = fiveB wd := (inV_strs wd ["no", "and", "or", "if", "box"]).trans (by simp [fiveB, Bool.or_assoc])
      rw [if_pos (rfl : true = true), e5]
      cases h5 : fiveB wd with
      | false =>
        rw [no_items h5 hlet] at q
        exact iteY rfl (iteY rfl (q _ a1))
      | true =>
        rw [five_items h5] at q
        refine iteN rfl ?_
        refine ⟨_, rfl, rfl, _, rfl, ?_⟩
        have fals : (if some (if wd = "no" then 1 else if wd = "box" then 2 else 3) = some (ps.length + 1) then (if wd = "box" && !boxed then false else ps.all (isNum 0 (row - 1))) else false) = false → ∀ H', Adv [] H H' → Q (.bl false) H' := fun e H' a' => by
          have q' := q H' a'
          rw [e] at q'
          exact q'
        have go : (wd = "box" && !boxed) = false → ∀ H2, Adv [] H H2 → tSeq (tIfS (tTest (tOp rNe (tCB (fun xs H Q => ∃ p ys, xs = [.ref p] ∧ (SqL K H p ys ∨ SqT K H p ys) ∧ Q (.int ys.length) H) (tCons (tVar 0) tNil)) (tDGet2 (tDisp [(tC (.str "no"), tC (.int 1)), (tC (.str "box"), tC (.int 2))]) (tVar 3) (tC (.int 3))))) (tRet (tC (.bl false))) tNext)
            (tRet (tOp rEq (tCB (fun xs H Q => ∃ p ys, xs = [.ref p] ∧ (SqL K H p ys ∨ SqT K H p ys) ∧ Q (.int ys.length) H) (tCons (tLc (iTup K (tSl (rSlT K) (tVar 0) (tPart (tC (.int 1))) tNoPart)) (gName 4) (tNot (tB (tCall spIsBetween [] E0 (tCons (tVar 4) (tCons (tC (.int 0)) (tCons (tOp (rI0 fun i j => .int (i - j)) (tVar 1) (tC (.int 1))) tNil)))))) (tVar 4) [4]) tNil)) (tC (.int 0))))
            { nx := fun _ H' => Q .non H', rt := Q } [some (.ref a), some (.int row), some (.bl boxed), some (.str wd), none] H2 := fun hb H2 a2 => by
          have ha2 := htp.adv a2
          refine ⟨_, rfl, a, _, rfl, .inr (ha2.sq A.W), fun p2 np2 => ?_⟩
          refine ⟨upd_same, [((Sum.inr "no" : Key), V.int 1), (Sum.inr "box", V.int 2)], rfl, by decide, p2, rfl, .inl ⟨_, .inl upd_same⟩, _, rfl, _, DGet.k (k := Sum.inr wd) upd_same, ?_⟩
          rw [val_items]
          rw [upd_upd]
          have a3 : Adv [] H (upd H2 p2 (.dK (mergeK [] [((Sum.inr "no" : Key), V.int 1), (Sum.inr "box", V.int 2)]))) := a2.trans (Adv.new np2)
          refine ⟨rfl, _, rfl, ?_⟩
          by_cases hk : (if wd = "no" then 1 else if wd = "box" then 2 else 3) = ps.length + 1
          case neg =>
            refine iteY ?_ (fals (by rw [if_neg (fun z => hk (Option.some.inj z))]) _ a3)
            have : ¬ (V.int (((V.str wd :: rs).length : Nat) : Int) = V.int ((if wd = "no" then 1 else if wd = "box" then 2 else 3 : Nat) : Int)) := fun z => hk (by
              have z' := V.int.inj z
              rw [List.length_cons, hl2] at z'
              omega)
            rw [decide_eq_false this]
            rfl
          rw [if_pos (by rw [hk]), if_neg (by rw [hb]; decide)] at q
          refine iteN ?_ ?_
          · rw [hk, List.length_cons, hl2]
            simp
          have ha3 := htp.adv a3
          refine ⟨_, rfl, 1, rfl, a, _, rfl, ha3.sq A.W, ?_, fun p4 np4 => ?_⟩
          · intro z
            have z1 := z.1
            rw [show HT.sIx (V.str wd :: rs).length 0 (some 1) = min 1 (V.str wd :: rs).length from HT.sIx_nat _ 0 1, List.length_cons] at z1
            omega
          · rw [cut_from1]
            refine ⟨p4, rfl, ⟨_, SqT.of upd_same⟩, fun D nD => ?_⟩
            have aP := a3.trans (Adv.new (M := []) (o := .tup ((V.str wd :: rs).drop 1)) np4)
            refine lc_filtT (K := K) (a := p4) (xs := rs) (fun i => rs.getD i .non) (fun i => !isNum 0 (row - 1) (ps.getD i .none)) nD (SqT.of upd_same) ?_ ?_ ?_
            · have : ps.length ≤ 3 := by
                split at hk
                · omega
                · split at hk <;> omega
              omega
            · intro i x H' acc R R0 hx aH hD k k0
              have hip : i < ps.length := by rw [← hl2]; exact (List.getElem?_eq_some_iff.mp hx).1
              obtain ⟨dx, hdx, hisx⟩ := hps.getV hx
              have ed : ps.getD i .none = dx := by rw [List.getD_eq_getElem?_getD, hdx]; rfl
              have ex : rs.getD i .non = x := by rw [List.getD_eq_getElem?_getD, hx]; rfl
              refine ⟨rfl, x, rfl, _, rfl, row, 1, rfl, rfl, x, dx, 0, row - 1, rfl, (hisx.adv (aP.trans aH)), _, rfl, ?_⟩
              rw [ed] at k k0
              refine iteB (fun e1 => ?_) (fun e1 => k0 e1 H' hD aH)
              refine ⟨x, rfl, ?_⟩
              have k' := k e1 H' hD aH
              rw [ex] at k'
              exact k'
            · intro H' aH hD
              refine ⟨D, _, rfl, .inl (SqL.of hD), rfl, ?_⟩
              rw [filt_none (isNum 0 (row - 1)) ps rs.length hl2]
              exact q H' (aP.trans aH)
        by_cases hbx : wd = "box"
        · subst hbx
          refine iteY (by simp) ⟨_, rfl, _, rfl, ?_⟩
          cases boxed with
          | true => exact iteN rfl (go (by simp) _ a1)
          | false => exact iteY rfl (iteY rfl (fals (by simp) _ a1))
        · refine iteN (by simp [hbx]) ?_
          exact go (by simp [hbx]) _ a1
end
end K59

set_option Elab.async false
set_option linter.all false
set_option maxRecDepth 100000
set_option maxHeartbeats 4000000
namespace K59
open PySem PySem.Spec PyProof.Rows L2 LL
open C8 (pss_cut)
def resV : Option Int → V
  | some i => .int i
  | none => .non
theorem wrongF_at {most : Int} {boxed : Bool} {ds : List PyData} {i : Nat} {d : PyData} {seen : List (List Key)} (h : ds[i]? = some d) :
    wrongF most boxed i seen (ds.drop i) = if (i : Int) < most then (if nodeB boxed i d then (if memK (keysD d) seen = true then some (i : Int) else wrongF most boxed ((i + 1 : Nat) : Int) (seen ++ [keysD d]) (ds.drop (i + 1))) else some (i : Int)) else some (i : Int) := by
  obtain ⟨hi, e⟩ := List.getElem?_eq_some_iff.mp h
  rw [List.drop_eq_getElem_cons hi, e]
  rfl
theorem wrongF_end {most : Int} {boxed : Bool} {ds : List PyData} {seen : List (List Key)} {i : Nat} (h : i = ds.length) : wrongF most boxed i seen (ds.drop i) = none := by
  rw [h, List.drop_length]
  rfl
section
variable [KW]
variable {P : Program} {w : World} {K : PySem.W.Frag} {mg : Str → Option Value} {base : Heap}
def spWrongRow : Sp := fun vs H Q _ => ∃ (v : V) (d : PyData) (most : Int) (boxed : Bool), vs = [v, .int most, .bl boxed] ∧ Is [] H d v ∧ 0 ≤ most ∧ (∀ ds, d = .list ds → ds.length ≤ 1000000) ∧ ∀ H', Adv [] H H' → Q (resV (wrongD most boxed d)) H'
theorem no_list {d : PyData} {most : Int} {boxed : Bool} (h : ¬ ∃ ds, d = .list ds) : kitD d "list" = false ∧ wrongD most boxed d = some (-1) := by
  cases d with
  | list ds => exact absurd ⟨ds, rfl⟩ h
  | _ => exact ⟨by simp [kitD, tyN], rfl⟩
theorem ok_wrong_row (A : All K mg w) : FnOk P w K mg base CX0 4 A.wrong_row.f A.wrong_row.fd ["value", "most", "boxed"] spWrongRow := by
  refine A.wrong_row.F.ok sc_wrong_row (fun vs H Q E h => ?_) (fun cdv Ar outer s H vs Q E hr h => ?_)
  · obtain ⟨v, d, most, boxed, rfl, _⟩ := h
    rfl
  · obtain ⟨v, d, most, boxed, rfl, hv, h0, hz, q⟩ := h
    refine ⟨_, (pss_cons (ps_if (pt_not (pt_val (pe_callB call_isi (by rfl) A.T.isinstance (by decide +kernel) (pa_cons (pv 0) (pa_cons (pe_bltn (v := .ty "list") (by rfl) A.T.list (by decide +kernel) rfl) pa_nil)))))
    (pss_one (ps_ret (pe_un un_neg pe_int)))
    pss_nil)
  (pss_cons (ps_set (i := 3) sc_wrong_row.nd rfl (Or.inl rfl) (pe_dnewX A.W))
  (pss_cons (ps_for PassesOwn.never rfl (pi_enum (by rfl) A.T.enumerate (pa_cons (pv 0) pa_nil)) (pg_tup rfl (pgs_cons (pg_name (i := 4) sc_wrong_row.nd rfl (Or.inl rfl)) (pgs_cons (pg_name (i := 5) sc_wrong_row.nd rfl (Or.inl rfl)) pgs_nil)))
    (pss_cons (ps_if (PW.pt (pw_or (pt_cmpR op_ge (pv 4) (pv 1) (nomark _)) (pw_or (pt_not (pt_val (pe_call (ok_is_node A) (hr.mono (by omega)) rfl A.is_node.m A.is_node.F.kp A.is_node.b .nil pass0 (pa_cons (pv 5) (pa_cons (pv 4) (pa_cons (pv 2) pa_nil)))))) (pw_or1 (pt_cmp (pc_dinX A.W (hu_of hr) (pv 5) (pv 3)))))))
    (pss_one (ps_ret (pv 4)))
    pss_nil)
  (pss_one (ps_dputX A.W (hu_of hr) (pv 3) (pv 5) pe_bl rfl))))
  (pss_one (ps_ret pe_non))))), ?_⟩
    refine ⟨_, rfl, _, _, _, _, _, rfl, .ty _, hv.ty A.W, k_list d, _, rfl, ?_⟩
    by_cases ht : ∃ ds, d = .list ds
    case neg =>
      obtain ⟨e1, e2⟩ := no_list (most := most) (boxed := boxed) ht
      refine iteY (by rw [e1]; rfl) ⟨1, rfl, ?_⟩
      have q' := q H (Adv.refl _ _)
      rw [e2] at q'
      exact q'
    obtain ⟨ds, rfl⟩ := ht
    refine iteN (by simp [kitD, tyN]) ?_
    obtain ⟨a, vs, rfl, na, ha, hs⟩ := hv.lstE
    have hl := hs.len
    have hsz := hz ds rfl
    intro d hd
    refine ⟨_, rfl, a, vs, rfl, SqL.of (by rw [upd_ne (ne_of_none ha hd)]; exact ha), ?_⟩
    refine for_enum (K := K) (a := a) (xs := vs) (fun i σ' H' => ∃ (v4 v5 : Option V) (kvs : List (List Key × V)), σ' = [some (.ref a), some (.int most), some (.bl boxed), some (.ref d), v4, v5] ∧ Adv [] H H' ∧ Tab [d] H' d kvs ∧ kvs.length ≤ i ∧ wrongF most boxed 0 [] ds = wrongF most boxed i (kvs.map (·.1)) (ds.drop i))
      ⟨none, none, [], rfl, Adv.new hd, Tab.new upd_same, Nat.le_refl _, rfl⟩ (fun i σ' H' _ ⟨_, _, _, _, a', _⟩ => a'.same _ _ ha) ?_ ?_
    · rintro i x T σ' H' hx ⟨v4, v5, kvs, rfl, a', hk, hkl, hw⟩ nT
      obtain ⟨dx, hdx, hisx⟩ := hs.getV hx
      rw [wrongF_at hdx] at hw
      have hi : i < ds.length := (List.getElem?_eq_some_iff.mp hdx).1
      refine ⟨T, _, rfl, SqT.of upd_same, rfl, _, _, rfl, _, _, rfl, rfl, ?_⟩
      have aT : Adv [] H (upd H' T (.tup [.int (i : Nat), x])) := a'.trans (Adv.new nT)
      have hkT : Tab [d] (upd H' T (.tup [.int (i : Nat), x])) d kvs := hk.same (Adv.new nT)
      refine ⟨_, rfl, _, rfl, (i : Int), most, rfl, rfl, _, rfl, ?_⟩
      by_cases hm : (i : Int) < most
      case neg =>
        rw [if_neg hm] at hw
        refine iteY (decide_eq_true (by omega)) (iteY rfl ⟨_, rfl, ?_⟩)
        have q' := q _ aT
        rw [show wrongD most boxed (.list ds) = wrongF most boxed 0 [] ds from rfl, hw] at q'
        exact q'
      rw [if_pos hm] at hw
      refine iteN (decide_eq_false (by omega)) ?_
      refine ⟨x, rfl, _, rfl, _, rfl, x, dx, (i : Int), boxed, rfl, hisx.adv aT, fun H3 a3 => ⟨_, rfl, ?_⟩⟩
      cases hn : nodeB boxed i dx with
      | false =>
        rw [if_neg (by rw [hn]; decide)] at hw
        refine iteY rfl (iteY rfl ⟨_, rfl, ?_⟩)
        have q' := q _ (aT.trans a3)
        rw [show wrongD most boxed (.list ds) = wrongF most boxed 0 [] ds from rfl, hw] at q'
        exact q'
      | true =>
        rw [if_pos hn] at hw
        refine iteN rfl ?_
        have hk3 := hkT.same a3
        obtain ⟨b, rfl, hb⟩ := node_keys ((hisx.fresh hd).adv ((aT.trans a3).more (by simp))) hn
        refine ⟨_, rfl, _, rfl, d, _, rfl, hk3.get A.W hb, _, rfl, ?_⟩
        rw [val_mem]
        cases hm2 : memK (keysD dx) (kvs.map (·.1)) with
        | true =>
          rw [if_pos hm2] at hw
          refine iteY rfl ⟨_, rfl, ?_⟩
          have q' := q _ (aT.trans a3)
          rw [show wrongD most boxed (.list ds) = wrongF most boxed 0 [] ds from rfl, hw] at q'
          exact q'
        | false =>
          rw [if_neg (by rw [hm2]; decide)] at hw
          refine iteN rfl ?_
          obtain ⟨o, hg, t2⟩ := hk3.putH A.W (by simp) hb (by rw [sizeLine_eq]; omega) (.bl true)
          refine ⟨_, rfl, _, rfl, d, _, rfl, hg, ?_⟩
          rw [put_new _ _ _ hm2] at t2
          refine ⟨_, _, _, rfl, (aT.trans a3).mut hd, t2, by rw [List.length_append, List.length_singleton]; omega, ?_⟩
          rw [hw, List.map_append]
          rfl
    · rintro σ' H' ⟨v4, v5, kvs, rfl, a', hk, hkl, hw⟩
      rw [wrongF_end hl] at hw
      have q' := q _ a'
      rw [show wrongD most boxed (.list ds) = wrongF most boxed 0 [] ds from rfl, hw] at q'
      exact q'
theorem ok_law_wrong_row (A : All K mg w) : FnOk P w K mg base CX0 3 A.law_wrong_row.f A.law_wrong_row.fd ["value", "most", "modal"] spWrongRow := by
  refine A.law_wrong_row.F.ok sc_law_wrong_row (fun vs H Q E h => ?_) (fun cdv Ar outer s H vs Q E hr h => ?_)
  · obtain ⟨v, d, most, boxed, rfl, _⟩ := h
    rfl
  · obtain ⟨v, d, most, boxed, rfl, hv, h0, hz, q⟩ := h
    refine ⟨_, (pss_cons (ps_if (pt_not (pt_val (pe_callB call_isi (by rfl) A.T.isinstance (by decide +kernel) (pa_cons (pv 0) (pa_cons (pe_bltn (v := .ty "list") (by rfl) A.T.list (by decide +kernel) rfl) pa_nil)))))
    (pss_one (ps_ret (pe_un un_neg pe_int)))
    pss_nil)
  (pss_cons (ps_set (i := 3) sc_law_wrong_row.nd rfl (Or.inl rfl) (pe_dnewX A.W))
  (pss_cons (ps_for PassesOwn.never rfl (pi_range1 rfl A.T.range (pa_cons (pe_callB call_len_seq (by rfl) A.T.len PySem.boot_len (pa_cons (pv 0) pa_nil)) pa_nil)) (pg_name (i := 4) sc_law_wrong_row.nd rfl (Or.inl rfl))
    (pss_cons (ps_if (PW.pt (pw_or (pt_cmpR op_eq (pv 4) (pv 1) (nomark _)) (pw_or (pt_not (pt_val (pe_call (ok_law_is_node A) (hr.mono (by omega)) rfl A.law_is_node.m A.law_is_node.F.kp A.law_is_node.b .nil pass0 (pa_cons (pe_ix ix_list (pv 0) (pv 4) (fun _ _ => rfl)) (pa_cons (pv 4) (pa_cons (pv 2) pa_nil)))))) (pw_or1 (pt_cmp (pc_dinX A.W (hu_of hr) (pe_ix ix_list (pv 0) (pv 4) (fun _ _ => rfl)) (pv 3)))))))
    (pss_one (ps_ret (pv 4)))
    pss_nil)
  (pss_one (ps_dputX A.W (hu_of hr) (pv 3) (pe_ix ix_list (pv 0) (pv 4) (fun _ _ => rfl)) (pv 4) rfl))))
  (pss_one (ps_ret pe_non))))), ?_⟩
    refine ⟨_, rfl, _, _, _, _, _, rfl, .ty _, hv.ty A.W, k_list d, _, rfl, ?_⟩
    by_cases ht : ∃ ds, d = .list ds
    case neg =>
      obtain ⟨e1, e2⟩ := no_list (most := most) (boxed := boxed) ht
      refine iteY (by rw [e1]; rfl) ⟨1, rfl, ?_⟩
      have q' := q H (Adv.refl _ _)
      rw [e2] at q'
      exact q'
    obtain ⟨ds, rfl⟩ := ht
    refine iteN (by simp [kitD, tyN]) ?_
    obtain ⟨a, vs, rfl, na, ha, hs⟩ := hv.lstE
    have hl := hs.len
    have hsz := hz ds rfl
    intro d hd
    have had : (upd H d (dxo d [])) a = some (.lst vs) := by rw [upd_ne (ne_of_none ha hd)]; exact ha
    refine ⟨_, rfl, a, vs, rfl, .inl (SqL.of had), _, rfl, by omega, by omega, ?_⟩
    refine for_range (lo := 0) (n := (vs.length : Int).toNat) (fun i σ' H' => ∃ (v4 : Option V) (kvs : List (List Key × V)), σ' = [some (.ref a), some (.int most), some (.bl boxed), some (.ref d), v4] ∧ Adv [] H H' ∧ Tab [d] H' d kvs ∧ kvs.length ≤ i ∧ (i : Int) ≤ most ∧ wrongF most boxed 0 [] ds = wrongF most boxed i (kvs.map (·.1)) (ds.drop i))
      ⟨none, [], rfl, Adv.new hd, Tab.new upd_same, Nat.le_refl _, h0, rfl⟩ ?_ ?_
    · rintro i σ' H' hi ⟨v4, kvs, rfl, a', hk, hkl, him, hw⟩
      have hi2 : i < vs.length := by omega
      obtain ⟨dx, hdx, hisx⟩ := hs.getV (List.getElem?_eq_getElem hi2)
      rw [wrongF_at hdx] at hw
      have ha' := a'.same _ _ ha
      have e0 : (0 : Int) + (i : Int) = (i : Int) := by omega
      rw [e0]
      refine ⟨_, rfl, _, rfl, rfl, _, rfl, ?_⟩
      by_cases hm : (i : Int) < most
      case neg =>
        rw [if_neg hm] at hw
        have e1 : (i : Int) = most := by omega
        refine iteY (by rw [e1]; simp) (iteY rfl ⟨_, rfl, ?_⟩)
        have q' := q _ a'
        rw [show wrongD most boxed (.list ds) = wrongF most boxed 0 [] ds from rfl, hw] at q'
        exact q'
      rw [if_pos hm] at hw
      have ne1 : ¬ (i : Int) = most := by omega
      refine iteN (by simp [ne1]) ?_
      refine ⟨_, rfl, _, rfl, a, vs, (i : Int), _, rfl, rfl, SqL.of ha', atI_nat (List.getElem?_eq_getElem hi2), _, rfl, _, rfl, _, dx, (i : Int), boxed, rfl, hisx.adv a', fun H3 a3 => ⟨_, rfl, ?_⟩⟩
      cases hn : nodeB boxed i dx with
      | false =>
        rw [if_neg (by rw [hn]; decide)] at hw
        refine iteY rfl (iteY rfl ⟨_, rfl, ?_⟩)
        have q' := q _ (a'.trans a3)
        rw [show wrongD most boxed (.list ds) = wrongF most boxed 0 [] ds from rfl, hw] at q'
        exact q'
      | true =>
        rw [if_pos hn] at hw
        refine iteN rfl ?_
        have hk3 := hk.same a3
        have ha3 := a3.same _ _ ha'
        obtain ⟨b, eb, hb⟩ := node_keys ((hisx.fresh hd).adv ((a'.trans a3).more (by simp))) hn
        refine ⟨_, rfl, _, rfl, a, vs, (i : Int), _, rfl, rfl, SqL.of ha3, atI_nat (List.getElem?_eq_getElem hi2), ?_⟩
        rw [eb]
        refine ⟨_, rfl, d, _, rfl, hk3.get A.W hb, _, rfl, ?_⟩
        rw [val_mem]
        cases hm2 : memK (keysD dx) (kvs.map (·.1)) with
        | true =>
          rw [if_pos hm2] at hw
          refine iteY rfl ⟨_, rfl, ?_⟩
          have q' := q _ (a'.trans a3)
          rw [show wrongD most boxed (.list ds) = wrongF most boxed 0 [] ds from rfl, hw] at q'
          exact q'
        | false =>
          rw [if_neg (by rw [hm2]; decide)] at hw
          refine iteN rfl ?_
          refine ⟨_, rfl, _, rfl, _, rfl, _, rfl, a, vs, (i : Int), _, rfl, rfl, SqL.of ha3, atI_nat (List.getElem?_eq_getElem hi2), ?_⟩
          rw [eb]
          obtain ⟨o, hg, t2⟩ := hk3.putH A.W (by simp) hb (by rw [sizeLine_eq]; omega) (.int (i : Nat))
          refine ⟨d, _, rfl, hg, ?_⟩
          rw [put_new _ _ _ hm2] at t2
          refine ⟨_, _, rfl, (a'.trans a3).mut hd, t2, by rw [List.length_append, List.length_singleton]; omega, by omega, ?_⟩
          rw [hw, List.map_append]
          rfl
    · rintro σ' H' ⟨v4, kvs, rfl, a', hk, hkl, him, hw⟩
      rw [wrongF_end (show (vs.length : Int).toNat = ds.length by omega)] at hw
      have q' := q _ a'
      rw [show wrongD most boxed (.list ds) = wrongF most boxed 0 [] ds from rfl, hw] at q'
      exact q'
end
end K59

set_option Elab.async false
set_option linter.all false
set_option maxRecDepth 100000
set_option maxHeartbeats 4000000
namespace K59
open PySem PySem.Spec PyProof.Rows L2 LL
open C8 (pss_cut)
def prD (d : PyData) : PyData := .tuple [d, d]
section
variable [KW]
variable {P : Program} {w : World} {K : PySem.W.Frag} {mg : Str → Option Value} {base : Heap}
def spSame : Sp := fun vs H Q _ => ∃ (v1 v2 : V) (d : PyData), vs = [v1, v2] ∧ Is [] H d v1 ∧ Is [] H d v2 ∧ sz d ≤ 1000000 ∧ ∀ H', Adv [] H H' → Q (.bl true) H'
theorem ok_law_same (A : All K mg w) : FnOk P w K mg base CX0 1 A.law_same.f A.law_same.fd ["actual", "due"] spSame := by
  refine A.law_same.F.ok sc_law_same (fun vs H Q E h => ?_) (fun cdv Ar outer s H vs Q E hr h => ?_)
  · obtain ⟨v1, v2, d, rfl, _⟩ := h
    rfl
  · obtain ⟨v1, v2, d0, rfl, h1, h2, hz, q⟩ := h
    refine ⟨_, (pss_cons (ps_set (i := 2) sc_law_same.nd rfl (Or.inl rfl) (pe_lst (pa_cons (pe_tup (pa_cons (pv 0) (pa_cons (pv 1) pa_nil))) pa_nil)))
  (pss_cons (ps_for PassesOwn.never rfl (pi_range1 rfl A.T.range (pa_cons pe_int pa_nil)) (pg_name (i := 3) sc_law_same.nd rfl (Or.inl rfl))
    (pss_cons (ps_if (pt_cmpR op_eq (pe_callB call_len_seq (by rfl) A.T.len PySem.boot_len (pa_cons (pv 2) pa_nil)) pe_int (nomark _))
    (pss_one (ps_ret pe_bl))
    pss_nil)
  (pss_cons (ps_asg (pe_bm0 PySem.F.plainAttrs_list PySem.F.slot_list_pop PySem.F.type_list_pop mt_pop (pv 2)) (pg_tup rfl (pgs_cons (pg_name (i := 4) sc_law_same.nd rfl (Or.inr rfl)) (pgs_cons (pg_name (i := 5) sc_law_same.nd rfl (Or.inr rfl)) pgs_nil))))
  (pss_one (ps_if (PW.pt (pw_or (pt_val (pe_callB call_isi (by rfl) A.T.isinstance (by decide +kernel) (pa_cons (pv 5) (pa_cons (pe_bltn (v := .ty "tuple") (by rfl) A.T.tuple (by decide +kernel) rfl) pa_nil)))) (pw_or1 (pt_val (pe_callB call_isi (by rfl) A.T.isinstance (by decide +kernel) (pa_cons (pv 5) (pa_cons (pe_bltn (v := .ty "list") (by rfl) A.T.list (by decide +kernel) rfl) pa_nil)))))))
    (pss_cons (ps_if (PW.pt (pw_or (pt_cmpR op_ne (pe_callB call_isi (by rfl) A.T.isinstance (by decide +kernel) (pa_cons (pv 5) (pa_cons (pe_bltn (v := .ty "tuple") (by rfl) A.T.tuple (by decide +kernel) rfl) pa_nil))) (pe_callB call_isi (by rfl) A.T.isinstance (by decide +kernel) (pa_cons (pv 4) (pa_cons (pe_bltn (v := .ty "tuple") (by rfl) A.T.tuple (by decide +kernel) rfl) pa_nil))) (nomark _)) (pw_or (pt_cmpR op_ne (pe_callB call_isi (by rfl) A.T.isinstance (by decide +kernel) (pa_cons (pv 5) (pa_cons (pe_bltn (v := .ty "list") (by rfl) A.T.list (by decide +kernel) rfl) pa_nil))) (pe_callB call_isi (by rfl) A.T.isinstance (by decide +kernel) (pa_cons (pv 4) (pa_cons (pe_bltn (v := .ty "list") (by rfl) A.T.list (by decide +kernel) rfl) pa_nil))) (nomark _)) (pw_or1 (pt_cmpR op_ne (pe_callB (call_or call_len_seq call_lenD) (by rfl) A.T.len PySem.boot_len (pa_cons (pv 4) pa_nil)) (pe_callB (call_or call_len_seq call_lenD) (by rfl) A.T.len PySem.boot_len (pa_cons (pv 5) pa_nil)) (nomark _))))))
    (pss_one (ps_ret pe_bl))
    pss_nil)
  (pss_one (ps_expr (pe_bm PySem.F.plainAttrs_list PySem.F.slot_list_extend PySem.F.type_list_extend mt_extend (pv 2) (pa_cons (pe_lc (own := [("at", 6)]) (g := gName 6) rfl sc_law_same.nd (pi_range1 rfl A.T.range (pa_cons (pe_callB (call_or call_len_seq call_lenD) (by rfl) A.T.len PySem.boot_len (pa_cons (pv 5) pa_nil)) pa_nil)) (blkOk_by (own := [("at", 6)]) (N := ["actual", "due", "left", "turn", "one", "other", "at", "key"]) (sc := defScope s_law_same) (by decide +kernel)) (fun _ _ _ _ _ => pg_name (i := 6) sc_law_same.nd rfl (Or.inl rfl)) (fun _ _ _ _ _ => pts_nil) (fun _ _ _ _ _ => (pe_tup (pa_cons (pe_ix (ix_any K rfl) (pv 4) (pv 6) (fun _ _ => rfl)) (pa_cons (pe_ix (ix_any K rfl) (pv 5) (pv 6) (fun _ _ => rfl)) pa_nil))))) pa_nil)))))
    (pss_one (ps_if (pt_val (pe_callB call_isi (by rfl) A.T.isinstance (by decide +kernel) (pa_cons (pv 5) (pa_cons (pe_bltn (v := .ty "dict") (by rfl) A.T.dict (by decide +kernel) rfl) pa_nil))))
    (pss_cons (ps_if (PW.pt (pw_or (pt_not (pt_val (pe_callB call_isi (by rfl) A.T.isinstance (by decide +kernel) (pa_cons (pv 4) (pa_cons (pe_bltn (v := .ty "dict") (by rfl) A.T.dict (by decide +kernel) rfl) pa_nil))))) (pw_or (pt_cmpR op_ne (pe_callB (call_or call_len_seq call_lenD) (by rfl) A.T.len PySem.boot_len (pa_cons (pv 4) pa_nil)) (pe_callB (call_or call_len_seq call_lenD) (by rfl) A.T.len PySem.boot_len (pa_cons (pv 5) pa_nil)) (nomark _)) (pw_or1 (pt_cmpR op_gt (pe_callB call_len_seq (by rfl) A.T.len PySem.boot_len (pa_cons (pe_lock (pe_lc (own := [("key", 7)]) (g := gName 7) rfl sc_law_same.nd (pi_keys (pv 5)) (blkOk_by (own := [("key", 7)]) (N := ["actual", "due", "left", "turn", "one", "other", "at", "key"]) (sc := defScope s_law_same) (by decide +kernel)) (fun _ _ _ _ _ => pg_name (i := 7) sc_law_same.nd rfl (Or.inl rfl)) (fun _ _ _ _ _ => pts_one pt_never) (fun _ _ _ _ _ => pe_never))) pa_nil)) pe_int (nomark _))))))
    (pss_one (ps_ret pe_bl))
    pss_nil)
  (pss_one (ps_expr (pe_bm PySem.F.plainAttrs_list PySem.F.slot_list_extend PySem.F.type_list_extend mt_extend (pv 2) (pa_cons (pe_lock (pe_lc (own := [("key", 7)]) (g := gName 7) rfl sc_law_same.nd (pi_keys (pv 5)) (blkOk_by (own := [("key", 7)]) (N := ["actual", "due", "left", "turn", "one", "other", "at", "key"]) (sc := defScope s_law_same) (by decide +kernel)) (fun _ _ _ _ _ => pg_name (i := 7) sc_law_same.nd rfl (Or.inl rfl)) (fun _ _ _ _ _ => pts_nil) (fun _ _ _ _ _ => pe_never))) pa_nil)))))
    (pss_one (ps_if (PW.pt (pw_or (pt_val (pe_callB call_isi (by rfl) A.T.isinstance (by decide +kernel) (pa_cons (pv 5) (pa_cons (pe_bltn (v := .ty "bool") (by rfl) A.T.bool (by decide +kernel) rfl) pa_nil)))) (pw_or1 (pt_val (pe_callB call_isi (by rfl) A.T.isinstance (by decide +kernel) (pa_cons (pv 5) (pa_cons (pe_bltn (v := .ty "str") (by rfl) A.T.str (by decide +kernel) rfl) pa_nil)))))))
    (pss_one (ps_if (PW.pt (pw_or (pt_cmpR op_ne (pe_callB call_isi (by rfl) A.T.isinstance (by decide +kernel) (pa_cons (pv 4) (pa_cons (pe_bltn (v := .ty "bool") (by rfl) A.T.bool (by decide +kernel) rfl) pa_nil))) (pe_callB call_isi (by rfl) A.T.isinstance (by decide +kernel) (pa_cons (pv 5) (pa_cons (pe_bltn (v := .ty "bool") (by rfl) A.T.bool (by decide +kernel) rfl) pa_nil))) (nomark _)) (pw_or (pt_cmpR op_ne (pe_callB call_isi (by rfl) A.T.isinstance (by decide +kernel) (pa_cons (pv 4) (pa_cons (pe_bltn (v := .ty "str") (by rfl) A.T.str (by decide +kernel) rfl) pa_nil))) (pe_callB call_isi (by rfl) A.T.isinstance (by decide +kernel) (pa_cons (pv 5) (pa_cons (pe_bltn (v := .ty "str") (by rfl) A.T.str (by decide +kernel) rfl) pa_nil))) (nomark _)) (pw_or1 (pt_cmpR op_ne (pv 4) (pv 5) (nomark _))))))
    (pss_one (ps_ret pe_bl))
    pss_nil))
    (pss_one (ps_if (pt_val (pe_callB call_isi (by rfl) A.T.isinstance (by decide +kernel) (pa_cons (pv 5) (pa_cons (pe_bltn (v := .ty "int") (by rfl) A.T.int (by decide +kernel) rfl) pa_nil))))
    (pss_one (ps_if (PW.pt (pw_or (pt_not (pt_val (pe_callB call_isi (by rfl) A.T.isinstance (by decide +kernel) (pa_cons (pv 4) (pa_cons (pe_bltn (v := .ty "int") (by rfl) A.T.int (by decide +kernel) rfl) pa_nil))))) (pw_or (pt_val (pe_callB call_isi (by rfl) A.T.isinstance (by decide +kernel) (pa_cons (pv 4) (pa_cons (pe_bltn (v := .ty "bool") (by rfl) A.T.bool (by decide +kernel) rfl) pa_nil)))) (pw_or1 (pt_cmpR op_ne (pv 4) (pv 5) (nomark _))))))
    (pss_one (ps_ret pe_bl))
    pss_nil))
    (pss_one (ps_if (pt_cmpR op_notN (pv 4) pe_non (nomark _))
    (pss_one (ps_ret pe_bl))
    pss_nil)))))))))))))
  (pss_one (ps_ret pe_bl)))), ?_⟩
    refine ⟨_, rfl, _, rfl, by show 2 ≤ sizeLine; decide, fun t nt => ⟨by show 1 ≤ sizeLine; decide, fun L nL => ?_⟩⟩
    have nL0 : H L = none := by
      by_cases e : L = t
      · rw [e]; exact nt
      · rw [upd_ne e] at nL; exact nL
    have ntL : t ≠ L := fun z => by rw [← z, upd_same] at nL; cases nL
    have aI : Adv [] H (upd (upd H t (.tup [v1, v2])) L (.lst [.ref t])) := (Adv.new nt).trans (Adv.new nL)
    refine ⟨2000000, rfl, by decide, by decide, for_range (lo := 0) (n := (2000000 : Int).toNat) (fun i σ' H' => ∃ (ds : List PyData) (vs : List V) (x3 x4 x5 : Option V), σ' = [some v1, some v2, some (.ref L), x3, x4, x5, none, none] ∧ Adv [] H H' ∧ H' L = some (.lst vs) ∧ IsDs [L] H' (ds.map prD) vs ∧ szL ds + i ≤ 1000000)
      ⟨[d0], [.ref t], none, none, none, rfl, aI, upd_same, ?_, ?_⟩ ?_ ?_⟩
    · have f1 := ((h1.fresh nL0).less (N := [L]) (by simp)).adv (aI.more (by simp))
      have f2 := ((h2.fresh nL0).less (N := [L]) (by simp)).adv (aI.more (by simp))
      exact IsDs.one (Is.tup (by rw [upd_ne ntL, upd_same]) (by simpa using ntL) (.cons f1 (IsDs.one f2)))
    · rw [szL_cons, szL_nil]
      omega
    · rintro i σ' H' hi ⟨ds, vs, x3, x4, x5, rfl, a', hL, hds, hsz⟩
      refine ⟨_, rfl, L, vs, rfl, .inl (SqL.of hL), rfl, _, rfl, ?_⟩
      rcases List.eq_nil_or_concat ds with rfl | ⟨ds', d, rfl⟩
      · have e0 : vs = [] := by unfold IsDs at hds; exact hds
        subst e0
        exact iteY rfl (q _ a')
      rw [List.concat_eq_append] at hds hsz
      rw [List.map_append] at hds
      obtain ⟨ws, v, rfl, hws, hv⟩ := IsDs.last (d := prD d) hds
      refine iteN (by simp; omega) ?_
      refine ⟨_, rfl, .inl ⟨rfl, _, SqL.of hL⟩, L, ws ++ [v], v, rfl, rfl, hL, by simp, ?_⟩
      rw [List.dropLast_concat]
      obtain ⟨tp, u1, u2, rfl, htp, hu1, hu2⟩ := hv.pair
      have aL : Adv [L] H' (upd H' L (.lst ws)) := Adv.set (by simp)
      have a2 : Adv [] H (upd H' L (.lst ws)) := a'.mut nL0
      have htp2 := htp.adv aL
      replace hu1 := hu1.adv aL
      replace hu2 := hu2.adv aL
      replace hws := hws.adv aL
      have hL2 : (upd H' L (.lst ws)) L = some (.lst ws) := upd_same
      have hwl := hws.len
      rw [szL_app, szL_cons, szL_nil] at hsz
      have szle : ∀ l : List PyData, l.length ≤ szL l := fun l => by
        induction l with
        | nil => exact Nat.zero_le _
        | cons c r ih =>
          rw [szL_cons, List.length_cons]
          have := sz_pos c
          omega
      have hdl := szle ds'
      rw [List.length_map] at hwl
      generalize upd H' L (.lst ws) = H2 at *
      have fin : ∀ (x3 x4 x5 : Option V) (H3 : Hp), Adv [] H2 H3 → ∃ (ds : List PyData) (vs : List V) (y3 y4 y5 : Option V), [some v1, some v2, some (.ref L), x3, x4, x5, none, none] = [some v1, some v2, some (.ref L), y3, y4, y5, none, none] ∧ Adv [] H H3 ∧ H3 L = some (.lst vs) ∧ IsDs [L] H3 (ds.map prD) vs ∧ szL ds + (i + 1) ≤ 1000000 := fun x3 x4 x5 H3 a3 =>
        ⟨ds', ws, x3, x4, x5, rfl, a2.trans a3, a3.same _ _ hL2, hws.adv (a3.more (by simp)), by have := sz_pos d; omega⟩
      refine ⟨tp, [u1, u2], rfl, htp2.sq A.W, rfl, _, _, rfl, _, _, rfl, rfl, ?_⟩
      cases d with
      | list cs =>
        refine ⟨_, rfl, _, _, _, _, _, rfl, .ty _, hu2.ty A.W, k_tuple _, _, rfl, ?_⟩
        refine iteN (by simp [kitD, tyN]) ?_
        refine ⟨_, rfl, _, _, _, _, _, rfl, .ty _, hu2.ty A.W, k_list _, _, rfl, iteY (by simp [kitD, tyN]) ?_⟩
        obtain ⟨b1, r1, rfl, nb1, hb1, hr1⟩ := hu1.lstE
        obtain ⟨b2, r2, rfl, nb2, hb2, hr2⟩ := hu2.lstE
        have hl1 := hr1.len
        have hl2 := hr2.len
        have szc : sz (.list cs) = 1 + szL cs := by rw [sz]
        have hcl := szle cs
        refine ⟨_, rfl, _, _, _, _, _, rfl, .ty _, hu2.ty A.W, k_tuple _, _, rfl, _, _, _, _, _, rfl, .ty _, hu1.ty A.W, k_tuple _, rfl, _, rfl, iteN (by simp) ?_⟩
        refine ⟨_, rfl, _, _, _, _, _, rfl, .ty _, hu2.ty A.W, k_list _, _, rfl, _, _, _, _, _, rfl, .ty _, hu1.ty A.W, k_list _, rfl, _, rfl, iteN (by simp) ?_⟩
        refine ⟨_, rfl, .inl ⟨b1, r1, rfl, .inl (SqL.of hb1), _, rfl, .inl ⟨b2, r2, rfl, .inl (SqL.of hb2), rfl, _, rfl, iteN (by simp [hl1, hl2]) ?_⟩⟩⟩
        refine ⟨_, rfl, .inl ⟨rfl, _, SqL.of hL2⟩, _, rfl, .inl ⟨b2, r2, rfl, .inl (SqL.of hb2), (r2.length : Int), rfl, by omega, by omega, fun D nD => ?_⟩⟩
        refine lc_dataR (M := [L]) (n := (r2.length : Int).toNat) (cs.map prD) (by simp [hl2]) nD (by simp [hl2]; omega) ?_ ?_
        · intro j dj H3 acc R hj a3 hD k
          have hjl : j < cs.length := by
            have := (List.getElem?_eq_some_iff.mp hj).1
            simpa using this
          have e0 : (0 : Int) + (j : Nat) = (j : Int) := by omega
          rw [e0]
          obtain ⟨w1, hw1, iw1⟩ := hr1.get (List.getElem?_eq_getElem hjl)
          obtain ⟨w2, hw2, iw2⟩ := hr2.get (List.getElem?_eq_getElem hjl)
          have ed : prD cs[j] = dj := by simpa [hjl] using hj
          refine ⟨rfl, _, rfl, _, rfl, .inl ⟨b1, r1, (j : Int), w1, rfl, rfl, SqL.of (a3.same _ _ hb1), atI_nat hw1, _, rfl, _, rfl, .inl ⟨b2, r2, (j : Int), w2, rfl, rfl, SqL.of (a3.same _ _ hb2), atI_nat hw2, by show 2 ≤ sizeLine; decide, fun T nT => ?_⟩⟩⟩
          have nDT : T ≠ D := (ne_of_none hD nT).symm
          have nLT : T ≠ L := (ne_of_none (a3.same _ _ hL2) nT).symm
          refine k _ _ (by rw [upd_ne nDT.symm]; exact hD) (Adv.new nT) ?_
          rw [← ed]
          have aa : Adv [D, L] H2 (upd H3 T (.tup [w1, w2])) := (a3.more (by simp)).trans (Adv.new nT)
          have g1 : Is [D, L] H2 cs[j] w1 := iw1.fresh nD
          have g2 : Is [D, L] H2 cs[j] w2 := iw2.fresh nD
          exact Is.tup upd_same (by simp [nDT, nLT]) (.cons (g1.adv aa) (IsDs.one (g2.adv aa)))
        · intro H3 acc a3 hD hacc
          have hal := hacc.len
          rw [List.length_map] at hal
          have hL3 := a3.same _ _ hL2
          have nDL : D ≠ L := (ne_of_none hL2 nD).symm
          refine ⟨L, D, ws, acc, rfl, rfl, hL3, hD, by rw [sizeLine_eq]; omega, ?_⟩
          refine ⟨ds' ++ cs, ws ++ acc, _, _, _, rfl, (a2.trans a3).mut nL0, upd_same, ?_, ?_⟩
          · rw [List.map_append]
            exact ((hws.adv (a3.more (by simp))).adv (Adv.set (by simp))).app ((hacc.less (by simp)).adv (Adv.set (by simp)))
          · rw [szL_app]
            omega
      | tuple cs =>
        refine ⟨_, rfl, _, _, _, _, _, rfl, .ty _, hu2.ty A.W, k_tuple _, _, rfl, ?_⟩
        refine iteY (by simp [kitD, tyN]) (iteY rfl ?_)
        obtain ⟨b1, r1, rfl, hb1, hr1⟩ := hu1.tupE
        obtain ⟨b2, r2, rfl, hb2, hr2⟩ := hu2.tupE
        have hl1 := hr1.len
        have hl2 := hr2.len
        have szc : sz (.tuple cs) = 1 + szL cs := by rw [sz]
        have hcl := szle cs
        refine ⟨_, rfl, _, _, _, _, _, rfl, .ty _, hu2.ty A.W, k_tuple _, _, rfl, _, _, _, _, _, rfl, .ty _, hu1.ty A.W, k_tuple _, rfl, _, rfl, iteN (by simp) ?_⟩
        refine ⟨_, rfl, _, _, _, _, _, rfl, .ty _, hu2.ty A.W, k_list _, _, rfl, _, _, _, _, _, rfl, .ty _, hu1.ty A.W, k_list _, rfl, _, rfl, iteN (by simp) ?_⟩
        refine ⟨_, rfl, .inl ⟨b1, r1, rfl, .inr (hb1.sq A.W), _, rfl, .inl ⟨b2, r2, rfl, .inr (hb2.sq A.W), rfl, _, rfl, iteN (by simp [hl1, hl2]) ?_⟩⟩⟩
        refine ⟨_, rfl, .inl ⟨rfl, _, SqL.of hL2⟩, _, rfl, .inl ⟨b2, r2, rfl, .inr (hb2.sq A.W), (r2.length : Int), rfl, by omega, by omega, fun D nD => ?_⟩⟩
        refine lc_dataR (M := [L]) (n := (r2.length : Int).toNat) (cs.map prD) (by simp [hl2]) nD (by simp [hl2]; omega) ?_ ?_
        · intro j dj H3 acc R hj a3 hD k
          have hjl : j < cs.length := by
            have := (List.getElem?_eq_some_iff.mp hj).1
            simpa using this
          have e0 : (0 : Int) + (j : Nat) = (j : Int) := by omega
          rw [e0]
          obtain ⟨w1, hw1, iw1⟩ := hr1.get (List.getElem?_eq_getElem hjl)
          obtain ⟨w2, hw2, iw2⟩ := hr2.get (List.getElem?_eq_getElem hjl)
          have ed : prD cs[j] = dj := by simpa [hjl] using hj
          refine ⟨rfl, _, rfl, _, rfl, .inr ⟨b1, r1, (j : Int), w1, rfl, rfl, (hb1.adv (Adv.nil a3)).sq A.W, atI_nat hw1, _, rfl, _, rfl, .inr ⟨b2, r2, (j : Int), w2, rfl, rfl, (hb2.adv (Adv.nil a3)).sq A.W, atI_nat hw2, by show 2 ≤ sizeLine; decide, fun T nT => ?_⟩⟩⟩
          have nDT : T ≠ D := (ne_of_none hD nT).symm
          have nLT : T ≠ L := (ne_of_none (a3.same _ _ hL2) nT).symm
          refine k _ _ (by rw [upd_ne nDT.symm]; exact hD) (Adv.new nT) ?_
          rw [← ed]
          have aa : Adv [D, L] H2 (upd H3 T (.tup [w1, w2])) := (a3.more (by simp)).trans (Adv.new nT)
          have g1 : Is [D, L] H2 cs[j] w1 := iw1.fresh nD
          have g2 : Is [D, L] H2 cs[j] w2 := iw2.fresh nD
          exact Is.tup upd_same (by simp [nDT, nLT]) (.cons (g1.adv aa) (IsDs.one (g2.adv aa)))
        · intro H3 acc a3 hD hacc
          have hal := hacc.len
          rw [List.length_map] at hal
          have hL3 := a3.same _ _ hL2
          have nDL : D ≠ L := (ne_of_none hL2 nD).symm
          refine ⟨L, D, ws, acc, rfl, rfl, hL3, hD, by rw [sizeLine_eq]; omega, ?_⟩
          refine ⟨ds' ++ cs, ws ++ acc, _, _, _, rfl, (a2.trans a3).mut nL0, upd_same, ?_, ?_⟩
          · rw [List.map_append]
            exact ((hws.adv (a3.more (by simp))).adv (Adv.set (by simp))).app ((hacc.less (by simp)).adv (Adv.set (by simp)))
          · rw [szL_app]
            omega
      | dict kvs =>
        refine ⟨_, rfl, _, _, _, _, _, rfl, .ty _, hu2.ty A.W, k_tuple _, _, rfl, iteN (by simp [kitD, tyN]) ?_⟩
        refine ⟨_, rfl, _, _, _, _, _, rfl, .ty _, hu2.ty A.W, k_list _, _, rfl, iteN (by simp [kitD, tyN]) ?_⟩
        refine ⟨_, rfl, _, _, _, _, _, rfl, .ty _, hu2.ty A.W, k_dict _, _, rfl, iteY (by simp [kitD, tyN]) ?_⟩
        obtain ⟨rfl, b1, rfl, nb1, hb1⟩ := hu1.dicE
        obtain ⟨_, b2, rfl, nb2, hb2⟩ := hu2.dicE
        refine ⟨_, rfl, _, _, _, _, _, rfl, .ty _, hu1.ty A.W, k_dict _, _, rfl, iteN (by simp [kitD, tyN]) ?_⟩
        refine ⟨_, rfl, .inr ⟨b1, [], rfl, hb1, _, rfl, .inr ⟨b2, [], rfl, hb2, rfl, _, rfl, iteN (by simp) ?_⟩⟩⟩
        refine ⟨b2, .dK [], hb2, trivial, fun od => ?_⟩
        refine ⟨_, rfl, b2, od, rfl, .inl ⟨[], upd_same, fun D nD => ?_⟩⟩
        have nDb : b2 ≠ D := fun z => by rw [← z, upd_same] at nD; cases nD
        have nD2 : H2 D = none := by rw [upd_ne nDb.symm] at nD; exact nD
        refine lc_keys0 (d := b2) (o := od) upd_same nD ?_
        refine ⟨by rw [upd_ne nDb]; exact upd_same, ?_⟩
        have a3 : Adv [] H2 (upd (upd (upd H2 b2 (.frz od (.dK []))) D (.lst [])) b2 (.dK [])) := fun b o _ e => by
          by_cases eb : b = b2
          · rw [eb, upd_same, ← hb2, ← eb, e]
          · rw [upd_ne eb, upd_ne (ne_of_none e nD2), upd_ne eb, e]
        have hD3 : (upd (upd (upd H2 b2 (.frz od (.dK []))) D (.lst [])) b2 (.dK [])) D = some (.lst []) := by rw [upd_ne nDb.symm, upd_same]
        refine ⟨D, [], rfl, .inl (SqL.of hD3), _, _, rfl, rfl, _, rfl, iteN (by decide) ?_⟩
        generalize (upd (upd (upd H2 b2 (.frz od (.dK []))) D (.lst [])) b2 (.dK [])) = H3 at *
        have hb3 := a3.same _ _ hb2
        have hL3 := a3.same _ _ hL2
        refine ⟨_, rfl, .inl ⟨rfl, _, SqL.of hL3⟩, b2, .dK [], hb3, trivial, fun od => ?_⟩
        refine ⟨_, rfl, b2, od, rfl, .inl ⟨[], upd_same, fun D nD => ?_⟩⟩
        have nDb : b2 ≠ D := fun z => by rw [← z, upd_same] at nD; cases nD
        have nD3 : H3 D = none := by rw [upd_ne nDb.symm] at nD; exact nD
        refine lc_keys0 (d := b2) (o := od) upd_same nD ?_
        refine ⟨by rw [upd_ne nDb]; exact upd_same, ?_⟩
        have a4 : Adv [] H3 (upd (upd (upd H3 b2 (.frz od (.dK []))) D (.lst [])) b2 (.dK [])) := fun b o _ e => by
          by_cases eb : b = b2
          · rw [eb, upd_same, ← hb3, ← eb, e]
          · rw [upd_ne eb, upd_ne (ne_of_none e nD3), upd_ne eb, e]
        have hD4 : (upd (upd (upd H3 b2 (.frz od (.dK []))) D (.lst [])) b2 (.dK [])) D = some (.lst []) := by rw [upd_ne nDb.symm, upd_same]
        generalize (upd (upd (upd H3 b2 (.frz od (.dK []))) D (.lst [])) b2 (.dK [])) = H4 at *
        have hL4 := a4.same _ _ hL3
        refine ⟨L, D, ws, [], rfl, rfl, hL4, hD4, by rw [sizeLine_eq, List.length_nil]; omega, ?_⟩
        refine ⟨ds', ws, _, _, _, rfl, ((a2.trans a3).trans a4).mut nL0, by rw [upd_same, List.append_nil], ?_, by have := sz_pos (.dict []); omega⟩
        exact ((hws.adv (a3.more (by simp))).adv (a4.more (by simp))).adv (Adv.set (by simp))
      | bool b =>
        refine ⟨_, rfl, _, _, _, _, _, rfl, .ty _, hu2.ty A.W, k_tuple _, _, rfl, iteN (by simp [kitD, tyN]) ?_⟩
        refine ⟨_, rfl, _, _, _, _, _, rfl, .ty _, hu2.ty A.W, k_list _, _, rfl, iteN (by simp [kitD, tyN]) ?_⟩
        refine ⟨_, rfl, _, _, _, _, _, rfl, .ty _, hu2.ty A.W, k_dict _, _, rfl, iteN (by simp [kitD, tyN]) ?_⟩
        refine ⟨_, rfl, _, _, _, _, _, rfl, .ty _, hu2.ty A.W, k_bool _, _, rfl, iteY (by simp [kitD, tyN]) (iteY rfl ?_)⟩
        refine ⟨_, rfl, _, _, _, _, _, rfl, .ty _, hu1.ty A.W, k_bool _, _, rfl, _, _, _, _, _, rfl, .ty _, hu2.ty A.W, k_bool _, rfl, _, rfl, iteN (by simp) ?_⟩
        refine ⟨_, rfl, _, _, _, _, _, rfl, .ty _, hu1.ty A.W, k_str _, _, rfl, _, _, _, _, _, rfl, .ty _, hu2.ty A.W, k_str _, rfl, _, rfl, iteN (by simp) ?_⟩
        cases hu1.blE
        cases hu2.blE
        exact ⟨_, rfl, _, rfl, rfl, _, rfl, iteN (by simp) (fin _ _ _ _ (Adv.refl _ _))⟩
      | str x =>
        refine ⟨_, rfl, _, _, _, _, _, rfl, .ty _, hu2.ty A.W, k_tuple _, _, rfl, iteN (by simp [kitD, tyN]) ?_⟩
        refine ⟨_, rfl, _, _, _, _, _, rfl, .ty _, hu2.ty A.W, k_list _, _, rfl, iteN (by simp [kitD, tyN]) ?_⟩
        refine ⟨_, rfl, _, _, _, _, _, rfl, .ty _, hu2.ty A.W, k_dict _, _, rfl, iteN (by simp [kitD, tyN]) ?_⟩
        refine ⟨_, rfl, _, _, _, _, _, rfl, .ty _, hu2.ty A.W, k_bool _, _, rfl, iteN (by simp [kitD, tyN]) ?_⟩
        refine ⟨_, rfl, _, _, _, _, _, rfl, .ty _, hu2.ty A.W, k_str _, _, rfl, iteY (by simp [kitD, tyN]) ?_⟩
        refine ⟨_, rfl, _, _, _, _, _, rfl, .ty _, hu1.ty A.W, k_bool _, _, rfl, _, _, _, _, _, rfl, .ty _, hu2.ty A.W, k_bool _, rfl, _, rfl, iteN (by simp) ?_⟩
        refine ⟨_, rfl, _, _, _, _, _, rfl, .ty _, hu1.ty A.W, k_str _, _, rfl, _, _, _, _, _, rfl, .ty _, hu2.ty A.W, k_str _, rfl, _, rfl, iteN (by simp) ?_⟩
        cases hu1.strE
        cases hu2.strE
        exact ⟨_, rfl, _, rfl, rfl, _, rfl, iteN (by simp) (fin _ _ _ _ (Adv.refl _ _))⟩
      | int n =>
        refine ⟨_, rfl, _, _, _, _, _, rfl, .ty _, hu2.ty A.W, k_tuple _, _, rfl, iteN (by simp [kitD, tyN]) ?_⟩
        refine ⟨_, rfl, _, _, _, _, _, rfl, .ty _, hu2.ty A.W, k_list _, _, rfl, iteN (by simp [kitD, tyN]) ?_⟩
        refine ⟨_, rfl, _, _, _, _, _, rfl, .ty _, hu2.ty A.W, k_dict _, _, rfl, iteN (by simp [kitD, tyN]) ?_⟩
        refine ⟨_, rfl, _, _, _, _, _, rfl, .ty _, hu2.ty A.W, k_bool _, _, rfl, iteN (by simp [kitD, tyN]) ?_⟩
        refine ⟨_, rfl, _, _, _, _, _, rfl, .ty _, hu2.ty A.W, k_str _, _, rfl, iteN (by simp [kitD, tyN]) ?_⟩
        refine ⟨_, rfl, _, _, _, _, _, rfl, .ty _, hu2.ty A.W, k_int _, _, rfl, iteY (by simp [kitD, tyN]) ?_⟩
        refine ⟨_, rfl, _, _, _, _, _, rfl, .ty _, hu1.ty A.W, k_int _, _, rfl, iteN (by simp [kitD, tyN]) ?_⟩
        refine ⟨_, rfl, _, _, _, _, _, rfl, .ty _, hu1.ty A.W, k_bool _, _, rfl, iteN (by simp [kitD, tyN]) ?_⟩
        cases hu1.intE
        cases hu2.intE
        exact ⟨_, rfl, _, rfl, rfl, _, rfl, iteN (by simp) (fin _ _ _ _ (Adv.refl _ _))⟩
      | none =>
        refine ⟨_, rfl, _, _, _, _, _, rfl, .ty _, hu2.ty A.W, k_tuple _, _, rfl, iteN (by simp [kitD, tyN]) ?_⟩
        refine ⟨_, rfl, _, _, _, _, _, rfl, .ty _, hu2.ty A.W, k_list _, _, rfl, iteN (by simp [kitD, tyN]) ?_⟩
        refine ⟨_, rfl, _, _, _, _, _, rfl, .ty _, hu2.ty A.W, k_dict _, _, rfl, iteN (by simp [kitD, tyN]) ?_⟩
        refine ⟨_, rfl, _, _, _, _, _, rfl, .ty _, hu2.ty A.W, k_bool _, _, rfl, iteN (by simp [kitD, tyN]) ?_⟩
        refine ⟨_, rfl, _, _, _, _, _, rfl, .ty _, hu2.ty A.W, k_str _, _, rfl, iteN (by simp [kitD, tyN]) ?_⟩
        refine ⟨_, rfl, _, _, _, _, _, rfl, .ty _, hu2.ty A.W, k_int _, _, rfl, iteN (by simp [kitD, tyN]) ?_⟩
        cases hu1.nonE
        cases hu2.nonE
        exact ⟨_, rfl, rfl, _, rfl, iteN (by simp) (fin _ _ _ _ (Adv.refl _ _))⟩
    · rintro σ' H' ⟨ds, vs, x3, x4, x5, rfl, a', hL, hds, hsz⟩
      have : (2000000 : Int).toNat = 2000000 := rfl
      omega
end
end K59

set_option Elab.async false
set_option linter.all false
set_option maxRecDepth 100000
set_option maxHeartbeats 4000000
namespace K59
open PySem PySem.Spec PyProof.Rows L2 LL
open C8 (pss_cut)
section
variable [KW]
variable {P : Program} {w : World} {K : PySem.W.Frag} {mg : Str → Option Value} {base : Heap}
def spCopy (n : Nat) : Sp := fun vs H Q _ => ∃ (v : V) (d : PyData) (M : List Addr), vs = [v] ∧ (∀ b ∈ M, H b ≠ none) ∧ Is M H d v ∧ dep d ≤ n ∧ sz d ≤ 1000000 ∧ ∀ v' H', Is M H' d v' → Adv [] H H' → Q v' H'
theorem szL_len : ∀ l : List PyData, l.length ≤ szL l
  | [] => Nat.zero_le _
  | c :: r => by
    rw [szL_cons, List.length_cons]
    have := sz_pos c
    have := szL_len r
    omega
theorem sz_mem : ∀ {ds : List PyData} {d : PyData}, d ∈ ds → sz d ≤ szL ds
  | c :: ds, d, h => by
    rw [szL_cons]
    rcases List.mem_cons.mp h with e | h
    · rw [e]; omega
    · have := sz_mem h
      omega
theorem copy_0 (A : All K mg w) : FnOk P w K mg base CX0 1 A.law_copy.f A.law_copy.fd ["value"] (spCopy 0) := by
  refine A.law_copy.F.ok sc_law_copy (fun vs H Q E h => ?_) (fun cdv Ar outer s H vs Q E hr h => ?_)
  · obtain ⟨v, d, M, rfl, _⟩ := h
    rfl
  · obtain ⟨v, d, M, rfl, hM, hv, hn, hz, q⟩ := h
    refine ⟨_, (pss_cons (ps_if (pt_val (pe_callB call_isi (by rfl) A.T.isinstance (by decide +kernel) (pa_cons (pv 0) (pa_cons (pe_bltn (v := .ty "dict") (by rfl) A.T.dict (by decide +kernel) rfl) pa_nil))))
    (pss_cons (ps_set (i := 1) sc_law_copy.nd rfl (Or.inl rfl) pe_dnewK)
  (pss_cons (ps_lock (ps_for PassesOwn.never rfl (pi_keys (pv 0)) (pg_name (i := 2) sc_law_copy.nd rfl (Or.inl rfl)) pss_never))
  (pss_one (ps_ret (pv 1)))))
    pss_nil)
  (pss_cons (ps_if (pt_val (pe_callB call_isi (by rfl) A.T.isinstance (by decide +kernel) (pa_cons (pv 0) (pa_cons (pe_bltn (v := .ty "list") (by rfl) A.T.list (by decide +kernel) rfl) pa_nil))))
    (pss_one (ps_ret (pe_lc (own := [("item", 3)]) (g := gName 3) rfl sc_law_copy.nd (pi_list (pv 0)) (blkOk_by (own := [("item", 3)]) (N := ["value", "found", "key", "item"]) (sc := defScope s_law_copy) (by decide +kernel)) (fun _ _ _ _ _ => pg_name (i := 3) sc_law_copy.nd rfl (Or.inl rfl)) (fun _ _ _ _ _ => pts_nil) (fun _ _ _ _ _ => pe_never))))
    pss_nil)
  (pss_cons (ps_if (pt_val (pe_callB call_isi (by rfl) A.T.isinstance (by decide +kernel) (pa_cons (pv 0) (pa_cons (pe_bltn (v := .ty "tuple") (by rfl) A.T.tuple (by decide +kernel) rfl) pa_nil))))
    (pss_one (ps_ret (pe_callTy call_tuple_of (by rfl) A.T.tuple (by decide +kernel) (pa_cons (pe_lc (own := [("item", 3)]) (g := gName 3) rfl sc_law_copy.nd (pi_tup (pv 0)) (blkOk_by (own := [("item", 3)]) (N := ["value", "found", "key", "item"]) (sc := defScope s_law_copy) (by decide +kernel)) (fun _ _ _ _ _ => pg_name (i := 3) sc_law_copy.nd rfl (Or.inl rfl)) (fun _ _ _ _ _ => pts_nil) (fun _ _ _ _ _ => pe_never)) pa_nil))))
    pss_nil)
  (pss_one (ps_ret (pv 0)))))), ?_⟩
    refine ⟨_, rfl, _, _, _, _, _, rfl, .ty _, hv.ty A.W, k_dict _, _, rfl, ?_⟩
    cases d with
    | dict kvs =>
      refine iteY (by simp [kitD, tyN]) ?_
      obtain ⟨rfl, b, rfl, nb, hb⟩ := hv.dicE
      intro f nf
      have nbf : b ≠ f := ne_of_none hb nf
      refine ⟨b, .dK [], by rw [upd_ne nbf]; exact hb, trivial, fun od => ?_⟩
      refine ⟨_, rfl, b, od, rfl, .inl ⟨[], upd_same, ?_⟩⟩
      refine for_keys0 (d := b) (o := od) upd_same ?_
      refine ⟨upd_same, ?_⟩
      have hf : (upd (upd (upd H f (.dK [])) b (.frz od (.dK []))) b (.dK [])) f = some (.dK []) := by rw [upd_ne nbf.symm, upd_ne nbf.symm, upd_same]
      refine ⟨_, rfl, q _ _ (Is.dic hf (not_mem_new hM nf)) fun c o _ e => ?_⟩
      by_cases ec : c = b
      · rw [ec, upd_same, ← hb, ← ec, e]
      · rw [upd_ne ec, upd_ne ec, upd_ne (ne_of_none e nf), e]
    | list ds =>
      refine iteN (by simp [kitD, tyN]) ?_
      refine ⟨_, rfl, _, _, _, _, _, rfl, .ty _, hv.ty A.W, k_list _, _, rfl, iteY (by simp [kitD, tyN]) ?_⟩
      obtain ⟨b, r, rfl, nb, hb, hr1⟩ := hv.lstE
      have hl := hr1.len
      have hdd : dep (.list ds) = 1 + depL ds := by rw [dep]
      have hss : sz (.list ds) = 1 + szL ds := by rw [sz]
      have hlen := szL_len ds
      omega
    | tuple ds =>
      refine iteN (by simp [kitD, tyN]) ?_
      refine ⟨_, rfl, _, _, _, _, _, rfl, .ty _, hv.ty A.W, k_list _, _, rfl, iteN (by simp [kitD, tyN]) ?_⟩
      refine ⟨_, rfl, _, _, _, _, _, rfl, .ty _, hv.ty A.W, k_tuple _, _, rfl, iteY (by simp [kitD, tyN]) ?_⟩
      obtain ⟨b, r, rfl, hb, hr1⟩ := hv.tupE
      have hl := hr1.len
      have hdd : dep (.tuple ds) = 1 + depL ds := by rw [dep]
      have hss : sz (.tuple ds) = 1 + szL ds := by rw [sz]
      have hlen := szL_len ds
      omega
    | none =>
      refine iteN (by simp [kitD, tyN]) ?_
      refine ⟨_, rfl, _, _, _, _, _, rfl, .ty _, hv.ty A.W, k_list _, _, rfl, iteN (by simp [kitD, tyN]) ?_⟩
      refine ⟨_, rfl, _, _, _, _, _, rfl, .ty _, hv.ty A.W, k_tuple _, _, rfl, iteN (by simp [kitD, tyN]) ?_⟩
      exact ⟨_, rfl, q _ _ hv (Adv.refl _ _)⟩
    | bool _ =>
      refine iteN (by simp [kitD, tyN]) ?_
      refine ⟨_, rfl, _, _, _, _, _, rfl, .ty _, hv.ty A.W, k_list _, _, rfl, iteN (by simp [kitD, tyN]) ?_⟩
      refine ⟨_, rfl, _, _, _, _, _, rfl, .ty _, hv.ty A.W, k_tuple _, _, rfl, iteN (by simp [kitD, tyN]) ?_⟩
      exact ⟨_, rfl, q _ _ hv (Adv.refl _ _)⟩
    | int _ =>
      refine iteN (by simp [kitD, tyN]) ?_
      refine ⟨_, rfl, _, _, _, _, _, rfl, .ty _, hv.ty A.W, k_list _, _, rfl, iteN (by simp [kitD, tyN]) ?_⟩
      refine ⟨_, rfl, _, _, _, _, _, rfl, .ty _, hv.ty A.W, k_tuple _, _, rfl, iteN (by simp [kitD, tyN]) ?_⟩
      exact ⟨_, rfl, q _ _ hv (Adv.refl _ _)⟩
    | str _ =>
      refine iteN (by simp [kitD, tyN]) ?_
      refine ⟨_, rfl, _, _, _, _, _, rfl, .ty _, hv.ty A.W, k_list _, _, rfl, iteN (by simp [kitD, tyN]) ?_⟩
      refine ⟨_, rfl, _, _, _, _, _, rfl, .ty _, hv.ty A.W, k_tuple _, _, rfl, iteN (by simp [kitD, tyN]) ?_⟩
      exact ⟨_, rfl, q _ _ hv (Adv.refl _ _)⟩
theorem copy_s (A : All K mg w) {n : Nat} (G : FnOk P w K mg base CX0 (n + 1) A.law_copy.f A.law_copy.fd ["value"] (spCopy n)) : FnOk P w K mg base CX0 (n + 2) A.law_copy.f A.law_copy.fd ["value"] (spCopy (n + 1)) := by
  refine A.law_copy.F.ok sc_law_copy (fun vs H Q E h => ?_) (fun cdv Ar outer s H vs Q E hr h => ?_)
  · obtain ⟨v, d, M, rfl, _⟩ := h
    rfl
  · obtain ⟨v, d, M, rfl, hM, hv, hn, hz, q⟩ := h
    refine ⟨_, (pss_cons (ps_if (pt_val (pe_callB call_isi (by rfl) A.T.isinstance (by decide +kernel) (pa_cons (pv 0) (pa_cons (pe_bltn (v := .ty "dict") (by rfl) A.T.dict (by decide +kernel) rfl) pa_nil))))
    (pss_cons (ps_set (i := 1) sc_law_copy.nd rfl (Or.inl rfl) pe_dnewK)
  (pss_cons (ps_lock (ps_for PassesOwn.never rfl (pi_keys (pv 0)) (pg_name (i := 2) sc_law_copy.nd rfl (Or.inl rfl)) pss_never))
  (pss_one (ps_ret (pv 1)))))
    pss_nil)
  (pss_cons (ps_if (pt_val (pe_callB call_isi (by rfl) A.T.isinstance (by decide +kernel) (pa_cons (pv 0) (pa_cons (pe_bltn (v := .ty "list") (by rfl) A.T.list (by decide +kernel) rfl) pa_nil))))
    (pss_one (ps_ret (pe_lc (own := [("item", 3)]) (g := gName 3) rfl sc_law_copy.nd (pi_list (pv 0)) (blkOk_by (own := [("item", 3)]) (N := ["value", "found", "key", "item"]) (sc := defScope s_law_copy) (by decide +kernel)) (fun _ _ _ _ _ => pg_name (i := 3) sc_law_copy.nd rfl (Or.inl rfl)) (fun _ _ _ _ _ => pts_nil) (fun _ _ _ _ _ => (pe_call G hr rfl A.law_copy.m A.law_copy.F.kp A.law_copy.b .nil pass0 (pa_cons (pv 3) pa_nil))))))
    pss_nil)
  (pss_cons (ps_if (pt_val (pe_callB call_isi (by rfl) A.T.isinstance (by decide +kernel) (pa_cons (pv 0) (pa_cons (pe_bltn (v := .ty "tuple") (by rfl) A.T.tuple (by decide +kernel) rfl) pa_nil))))
    (pss_one (ps_ret (pe_callTy call_tuple_of (by rfl) A.T.tuple (by decide +kernel) (pa_cons (pe_lc (own := [("item", 3)]) (g := gName 3) rfl sc_law_copy.nd (pi_tup (pv 0)) (blkOk_by (own := [("item", 3)]) (N := ["value", "found", "key", "item"]) (sc := defScope s_law_copy) (by decide +kernel)) (fun _ _ _ _ _ => pg_name (i := 3) sc_law_copy.nd rfl (Or.inl rfl)) (fun _ _ _ _ _ => pts_nil) (fun _ _ _ _ _ => (pe_call G hr rfl A.law_copy.m A.law_copy.F.kp A.law_copy.b .nil pass0 (pa_cons (pv 3) pa_nil)))) pa_nil))))
    pss_nil)
  (pss_one (ps_ret (pv 0)))))), ?_⟩
    refine ⟨_, rfl, _, _, _, _, _, rfl, .ty _, hv.ty A.W, k_dict _, _, rfl, ?_⟩
    cases d with
    | dict kvs =>
      refine iteY (by simp [kitD, tyN]) ?_
      obtain ⟨rfl, b, rfl, nb, hb⟩ := hv.dicE
      intro f nf
      have nbf : b ≠ f := ne_of_none hb nf
      refine ⟨b, .dK [], by rw [upd_ne nbf]; exact hb, trivial, fun od => ?_⟩
      refine ⟨_, rfl, b, od, rfl, .inl ⟨[], upd_same, ?_⟩⟩
      refine for_keys0 (d := b) (o := od) upd_same ?_
      refine ⟨upd_same, ?_⟩
      have hf : (upd (upd (upd H f (.dK [])) b (.frz od (.dK []))) b (.dK [])) f = some (.dK []) := by rw [upd_ne nbf.symm, upd_ne nbf.symm, upd_same]
      refine ⟨_, rfl, q _ _ (Is.dic hf (not_mem_new hM nf)) fun c o _ e => ?_⟩
      by_cases ec : c = b
      · rw [ec, upd_same, ← hb, ← ec, e]
      · rw [upd_ne ec, upd_ne ec, upd_ne (ne_of_none e nf), e]
    | list ds =>
      refine iteN (by simp [kitD, tyN]) ?_
      refine ⟨_, rfl, _, _, _, _, _, rfl, .ty _, hv.ty A.W, k_list _, _, rfl, iteY (by simp [kitD, tyN]) ?_⟩
      obtain ⟨b, r, rfl, nb, hb, hr1⟩ := hv.lstE
      have hl := hr1.len
      have hdd : dep (.list ds) = 1 + depL ds := by rw [dep]
      have hss : sz (.list ds) = 1 + szL ds := by rw [sz]
      have hlen := szL_len ds
      refine ⟨_, rfl, b, rfl, ⟨_, SqL.of hb⟩, fun D nD => ?_⟩
      refine lc_dataL (M := M) (K := K) (a := b) (xs := r) ds hl nD (SqL.of hb) (by omega) ?_ ?_
      · intro i x dx H3 acc R hx hdx a3 hD k
        have hdl : dx ∈ ds := List.mem_of_getElem? hdx
        obtain ⟨x', hx', isx⟩ := hr1.get hdx
        rw [hx] at hx'
        cases hx'
        have d1 := dep_mem hdl
        have d2 := sz_mem hdl
        refine ⟨rfl, x, rfl, x, dx, D :: M, rfl, ?_, (isx.fresh nD).adv (a3.more (by simp)), by omega, by omega, fun v' H4 h4 a4 => ?_⟩
        · intro c hc
          rcases List.mem_cons.mp hc with e | hc
          · rw [e, hD]; simp
          · cases e : H c with
            | none => exact absurd e (hM c hc)
            | some o => rw [a3.same _ _ e]; simp
        · exact k v' H4 (a4.same _ _ hD) (a4.more (by simp)) h4
      · intro H3 acc a3 hD hacc
        exact q _ _ (Is.lst hD (not_mem_new hM nD) (hacc.less (by simp +contextual))) a3
    | tuple ds =>
      refine iteN (by simp [kitD, tyN]) ?_
      refine ⟨_, rfl, _, _, _, _, _, rfl, .ty _, hv.ty A.W, k_list _, _, rfl, iteN (by simp [kitD, tyN]) ?_⟩
      refine ⟨_, rfl, _, _, _, _, _, rfl, .ty _, hv.ty A.W, k_tuple _, _, rfl, iteY (by simp [kitD, tyN]) ?_⟩
      obtain ⟨b, r, rfl, hb, hr1⟩ := hv.tupE
      have hl := hr1.len
      have hdd : dep (.tuple ds) = 1 + depL ds := by rw [dep]
      have hss : sz (.tuple ds) = 1 + szL ds := by rw [sz]
      have hlen := szL_len ds
      refine ⟨_, rfl, b, rfl, ⟨_, hb.sq A.W⟩, fun D nD => ?_⟩
      refine lc_dataT (M := M) (K := K) (a := b) (xs := r) ds hl nD (hb.sq A.W) (by omega) ?_ ?_
      · intro i x dx H3 acc R hx hdx a3 hD k
        have hdl : dx ∈ ds := List.mem_of_getElem? hdx
        obtain ⟨x', hx', isx⟩ := hr1.get hdx
        rw [hx] at hx'
        cases hx'
        have d1 := dep_mem hdl
        have d2 := sz_mem hdl
        refine ⟨rfl, x, rfl, x, dx, D :: M, rfl, ?_, (isx.fresh nD).adv (a3.more (by simp)), by omega, by omega, fun v' H4 h4 a4 => ?_⟩
        · intro c hc
          rcases List.mem_cons.mp hc with e | hc
          · rw [e, hD]; simp
          · cases e : H c with
            | none => exact absurd e (hM c hc)
            | some o => rw [a3.same _ _ e]; simp
        · exact k v' H4 (a4.same _ _ hD) (a4.more (by simp)) h4
      · intro H3 acc a3 hD hacc
        refine ⟨D, acc, rfl, .inl ⟨SqL.of hD, fun l nl => ?_⟩⟩
        have aN : Adv [] H3 (upd H3 l (.tup acc)) := Adv.new nl
        exact q _ _ (Is.tup upd_same (not_mem_new hM (a3.free (by simp) nl)) ((hacc.less (by simp +contextual)).adv (aN.more (by simp)))) (a3.trans aN)
    | none =>
      refine iteN (by simp [kitD, tyN]) ?_
      refine ⟨_, rfl, _, _, _, _, _, rfl, .ty _, hv.ty A.W, k_list _, _, rfl, iteN (by simp [kitD, tyN]) ?_⟩
      refine ⟨_, rfl, _, _, _, _, _, rfl, .ty _, hv.ty A.W, k_tuple _, _, rfl, iteN (by simp [kitD, tyN]) ?_⟩
      exact ⟨_, rfl, q _ _ hv (Adv.refl _ _)⟩
    | bool _ =>
      refine iteN (by simp [kitD, tyN]) ?_
      refine ⟨_, rfl, _, _, _, _, _, rfl, .ty _, hv.ty A.W, k_list _, _, rfl, iteN (by simp [kitD, tyN]) ?_⟩
      refine ⟨_, rfl, _, _, _, _, _, rfl, .ty _, hv.ty A.W, k_tuple _, _, rfl, iteN (by simp [kitD, tyN]) ?_⟩
      exact ⟨_, rfl, q _ _ hv (Adv.refl _ _)⟩
    | int _ =>
      refine iteN (by simp [kitD, tyN]) ?_
      refine ⟨_, rfl, _, _, _, _, _, rfl, .ty _, hv.ty A.W, k_list _, _, rfl, iteN (by simp [kitD, tyN]) ?_⟩
      refine ⟨_, rfl, _, _, _, _, _, rfl, .ty _, hv.ty A.W, k_tuple _, _, rfl, iteN (by simp [kitD, tyN]) ?_⟩
      exact ⟨_, rfl, q _ _ hv (Adv.refl _ _)⟩
    | str _ =>
      refine iteN (by simp [kitD, tyN]) ?_
      refine ⟨_, rfl, _, _, _, _, _, rfl, .ty _, hv.ty A.W, k_list _, _, rfl, iteN (by simp [kitD, tyN]) ?_⟩
      refine ⟨_, rfl, _, _, _, _, _, rfl, .ty _, hv.ty A.W, k_tuple _, _, rfl, iteN (by simp [kitD, tyN]) ?_⟩
      exact ⟨_, rfl, q _ _ hv (Adv.refl _ _)⟩

theorem ok_law_copy (A : All K mg w) : ∀ n : Nat, FnOk P w K mg base CX0 (n + 1) A.law_copy.f A.law_copy.fd ["value"] (spCopy n)
  | 0 => copy_0 A
  | n + 1 => copy_s A (ok_law_copy A n)
end
end K59

set_option Elab.async false
set_option linter.all false
set_option maxRecDepth 100000
set_option maxHeartbeats 400000
namespace K59
open PySem PySem.Spec PyProof.Rows L2 LL
section
variable [KW]
variable {P : Program} {w : World} {K : PySem.W.Frag} {mg : Str → Option Value} {base : Heap}
/-! ### _law_row, by the book's content -/
structure RowP (vs : List V) (H : Hp) (Q : VK) : Prop where
  ex : ∃ (M : List Addr) (bk b0 b1 nd : Addr) (ns : List Nd) (n : Nd), vs = [.ref bk, .ref nd] ∧ H bk = some (.lst [.ref b0, .ref b1]) ∧ bk ∉ M ∧ BkN M H b0 b1 ns ∧ Tp M H nd (n.keys.map kV) ∧ ns.length ≤ 1000000 ∧
  ∀ H', BkN M H' b0 b1 (rowF ns n).2 → Adv [b0, b1] H H' → Q (.int ((rowF ns n).1 : Nat)) H'
def spRowN : Sp := fun vs H Q _ => RowP vs H Q
theorem ok_law_row (A : All K mg w) : FnOk P w K mg base CX0 1 A.law_row.f A.law_row.fd ["book", "node"] spRowN := by
  refine A.law_row.F.ok sc_law_row (fun vs H Q E h => ?_) (fun cdv Ar outer s H vs Q E hr h => ?_)
  · obtain ⟨M, bk, b0, b1, nd, ns, n, rfl, _⟩ := h.ex
    rfl
  · obtain ⟨M, bk, b0, b1, nd, ns, n, rfl, hbk, kM, B, hnd, hl, q⟩ := h.ex
    refine ⟨_, (pss_cons (ps_if (pt_cmp (pc_dnotinX A.W (hu_of hr) (pv 1) (pe_ix ix_list (pv 0) pe_int (fun _ _ => rfl))))
    (pss_cons (ps_dputX A.W (hu_of hr) (pe_ix ix_list (pv 0) pe_int (fun _ _ => rfl)) (pv 1) (pe_callB call_len_seq (by rfl) A.T.len PySem.boot_len (pa_cons (pe_ix ix_list (pv 0) pe_int (fun _ _ => rfl)) pa_nil)) rfl)
  (pss_one (ps_expr (pe_bm PySem.F.plainAttrs_list PySem.F.slot_list_append PySem.F.type_list_append mt_append (pe_ix ix_list (pv 0) pe_int (fun _ _ => rfl)) (pa_cons (pv 1) pa_nil)))))
    pss_nil)
  (pss_one (ps_ret (pe_dgetX A.W (hu_of hr) (pe_ix ix_list (pv 0) pe_int (fun _ _ => rfl)) (pv 1) (fun _ _ => rfl))))), ?_⟩
    obtain ⟨⟨rs, r0, rd⟩, r1, m0, m1, n01, al⟩ := id B
    have hrl : rs.length = ns.length := by have := rd.len; rw [List.length_map] at this; exact this
    have i0 : atI [V.ref b0, .ref b1] 0 = some (.ref b0) := atI_nat (j := 0) rfl
    have i1 : atI [V.ref b0, .ref b1] 1 = some (.ref b1) := atI_nat (j := 1) rfl
    have hv := tab_val 0 ns n
    refine ⟨_, rfl, _, rfl, bk, _, 1, _, rfl, rfl, SqL.of hbk, i1, b1, _, rfl, r1.get A.W hnd, _, rfl, ?_⟩
    by_cases hm : n ∈ ns
    · rw [if_pos hm, Nat.zero_add] at hv
      rw [hv]
      refine iteN rfl ?_
      refine ⟨_, rfl, bk, _, 1, _, rfl, rfl, SqL.of hbk, i1, _, rfl, b1, .int (ns.idxOf n : Nat), rfl, by have := r1.get A.W hnd; rw [hv] at this; exact this, ?_⟩
      unfold rowF at q
      rw [if_pos hm] at q
      exact q H B (Adv.refl _ _)
    · rw [if_neg hm] at hv
      rw [hv]
      refine iteY rfl ?_
      obtain ⟨o, hg, B2⟩ := B.push A.W r0 hnd hm (by rw [sizeLine_eq]; omega)
      refine ⟨_, rfl, bk, _, 0, _, rfl, rfl, SqL.of hbk, i0, b0, rs, rfl, .inl (SqL.of r0), ?_⟩
      refine ⟨_, rfl, bk, _, 1, _, rfl, rfl, SqL.of hbk, i1, _, rfl, b1, _, rfl, hg, ?_⟩
      have kb1 : bk ≠ b1 := fun z => kM (by rw [z]; exact m1)
      have kb0 : bk ≠ b0 := fun z => kM (by rw [z]; exact m0)
      have hbk1 : (upd H b1 o) bk = some (.lst [.ref b0, .ref b1]) := by rw [upd_ne kb1]; exact hbk
      have r01 : (upd H b1 o) b0 = some (.lst rs) := by rw [upd_ne n01]; exact r0
      refine ⟨_, rfl, bk, _, 0, _, rfl, rfl, SqL.of hbk1, i0, .inl ⟨rfl, _, SqL.of r01⟩, _, rfl, b0, rs, _, rfl, rfl, r01, by rw [sizeLine_eq]; omega, ?_⟩
      have aa : Adv [b0, b1] H (upd (upd H b1 o) b0 (.lst (rs ++ [.ref nd]))) := (Adv.set (by simp)).trans (Adv.set (by simp))
      have hbk2 : (upd (upd H b1 o) b0 (.lst (rs ++ [.ref nd]))) bk = some (.lst [.ref b0, .ref b1]) := by rw [upd_ne kb0]; exact hbk1
      have hnd2 := hnd.adv (aa.more (by simp [m0, m1]))
      have hval : valV (tabG 0 (ns ++ [n])) n.keys = some (.int (ns.length : Nat)) := by
        rw [tab_val, if_pos (by simp), Nat.zero_add, List.idxOf_append, if_neg hm]
        simp [List.idxOf_cons]
      refine ⟨_, rfl, bk, _, 1, _, rfl, rfl, SqL.of hbk2, i1, _, rfl, b1, _, rfl, by have := B2.tab.get A.W hnd2; rw [hval] at this; exact this, ?_⟩
      unfold rowF at q
      rw [if_neg hm] at q
      exact q _ B2 aa
end
end K59

set_option Elab.async false
set_option linter.all false
set_option maxRecDepth 100000
set_option maxHeartbeats 400000
namespace K59
open PySem PySem.Spec PyProof.Rows L2 LL
section
variable [KW]
variable {P : Program} {w : World} {K : PySem.W.Frag} {mg : Str → Option Value} {base : Heap}
theorem row_callN {M : List Addr} {H : Hp} {bk b0 b1 p : Addr} {ns : List Nd} {Q : VK} (n : Nd) (hbk : H bk = some (.lst [.ref b0, .ref b1])) (kM : bk ∉ M) (B : BkN M H b0 b1 ns) (hp : H p = none) (hl : ns.length ≤ 1000000)
    (q : ∀ H', H' bk = some (.lst [.ref b0, .ref b1]) → BkN M H' b0 b1 (rowF ns n).2 → Adv [b0, b1] H H' → Q (.int ((rowF ns n).1 : Nat)) H') : RowP [.ref bk, .ref p] (upd H p (.tup (n.keys.map kV))) Q := by
  have a : Adv [] H (upd H p (.tup (n.keys.map kV))) := Adv.new hp
  have kk : bk ∉ [b0, b1] := fun z => by
    rcases List.mem_cons.mp z with z | z
    · exact kM (by rw [z]; exact B.m0)
    · exact kM (by rw [List.mem_singleton.mp z]; exact B.m1)
  have hbk1 := a.same _ _ hbk
  exact ⟨⟨M, bk, b0, b1, p, ns, n, rfl, hbk1, kM, B.same a, Tp.of upd_same (not_mem_new B.al hp), hl, fun H' B' a' => q H' (a' _ _ kk hbk1) B' ((Adv.nil a).trans a')⟩⟩
/-! ### _law_not -/
def spNotN : Sp := fun vs H Q _ => ∃ (M : List Addr) (bk b0 b1 : Addr) (ns : List Nd) (r : Nat), vs = [.ref bk, .int r] ∧ H bk = some (.lst [.ref b0, .ref b1]) ∧ bk ∉ M ∧ BkN M H b0 b1 ns ∧ ns.length ≤ 900000 ∧
  ∀ H', BkN M H' b0 b1 (denyF ns r).2 → Adv [b0, b1] H H' → Q (.int ((denyF ns r).1 : Nat)) H'
theorem ok_law_not (A : All K mg w) : FnOk P w K mg base CX0 2 A.law_not.f A.law_not.fd ["book", "row"] spNotN := by
  refine A.law_not.F.ok sc_law_not (fun vs H Q E h => ?_) (fun cdv Ar outer s H vs Q E hr h => ?_)
  · obtain ⟨M, bk, b0, b1, ns, r, rfl, _⟩ := h
    rfl
  · obtain ⟨M, bk, b0, b1, ns, r, rfl, hbk, kM, B, hl, q⟩ := h
    refine ⟨_, (pss_one (ps_ret (pe_call (ok_law_row A) (hr.mono (by omega)) rfl A.law_row.m A.law_row.F.kp A.law_row.b .nil pass0 (pa_cons (pv 0) (pa_cons (pe_tup (pa_cons pe_str (pa_cons (pv 1) (pa_cons (pe_call (ok_law_row A) (hr.mono (by omega)) rfl A.law_row.m A.law_row.F.kp A.law_row.b .nil pass0 (pa_cons (pv 0) (pa_cons (pe_tup (pa_cons pe_str pa_nil)) pa_nil))) pa_nil)))) pa_nil))))), ?_⟩
    refine ⟨_, rfl, _, rfl, _, rfl, by show 1 ≤ sizeLine; decide, fun p np => ?_⟩
    refine row_callN .no hbk kM B np (by omega) fun H1 hbk1 B1 a1 => ?_
    refine ⟨by show 3 ≤ sizeLine; decide, fun p2 np2 => ?_⟩
    have hl1 : (rowF ns .no).2.length ≤ ns.length + 1 := by
      unfold rowF
      split <;> simp
    exact row_callN (.bin .imp r (rowF ns .no).1) hbk1 kM B1 np2 (by omega) fun H2 hbk2 B2 a2 => q H2 B2 (a1.trans a2)
end
end K59

set_option Elab.async false
set_option linter.all false
set_option maxRecDepth 100000
set_option maxHeartbeats 400000
namespace K59
open PySem PySem.Spec PyProof.Rows L2 LL
section
variable [KW]
variable {P : Program} {w : World} {K : PySem.W.Frag} {mg : Str → Option Value} {base : Heap}
theorem atI_nat0 {xs : List V} {j : Nat} {v : V} (h : xs[j]? = some v) : atI xs (0 + (j : Nat)) = some v := by
  rw [Int.zero_add]
  exact atI_nat h
theorem ixN_of {n j : Nat} (h : j < n) : ixN n (j : Int) = some j := by
  unfold ixN
  rw [if_pos (Int.natCast_nonneg j), if_pos (by omega), Int.toNat_natCast]
def nV (l : List Nat) : List V := l.map fun i => V.int (i : Nat)
structure PartsP (tup : Bool) (vs : List V) (H : Hp) (Q : VK) : Prop where
  ex : ∃ (M : List Addr) (a : Addr) (n : Nd), vs = [.ref a] ∧ Tp M H a (n.keys.map kV) ∧ ∀ l H', H l = none → H' l = some (if tup = true then .tup (nV n.parts) else .lst (nV n.parts)) → Adv [] H H' → Q (.ref l) H'
def spParts (tup : Bool) : Sp := fun vs H Q _ => PartsP tup vs H Q
theorem ok_law_parts (A : All K mg w) : FnOk P w K mg base CX0 1 A.law_parts.f A.law_parts.fd ["node"] (spParts false) := by
  refine A.law_parts.F.ok sc_law_parts (fun vs H Q E h => ?_) (fun cdv Ar outer s H vs Q E hr h => ?_)
  · obtain ⟨M, a, n, rfl, _⟩ := h.ex
    rfl
  · obtain ⟨M, a, n, rfl, ha, q⟩ := h.ex
    refine ⟨_, (pss_one (ps_ret (pe_ifExp (pt_cmpR op_eq (pe_ix ix_tup (pv 0) pe_int (fun _ _ => rfl)) pe_str (nomark _)) (pe_lst pa_nil) (pe_callTy call_list_of (by rfl) A.T.list (by decide +kernel) (pa_cons (pe_slice sl_tup (pv 0) (po_some pe_int) po_none) pa_nil))))), ?_⟩
    have ha0 : SqT K H a (n.keys.map kV) := ha.sq A.W
    cases n with
    | letter i =>
      refine ⟨_, rfl, a, _, 0, _, rfl, rfl, ha0, atI_nat (j := 0) rfl, rfl, _, rfl, iteY (by decide) ⟨by show 0 ≤ sizeLine; exact Nat.zero_le _, fun p np => ?_⟩⟩
      exact q p _ np upd_same (Adv.new np)
    | no =>
      refine ⟨_, rfl, a, _, 0, _, rfl, rfl, ha0, atI_nat (j := 0) rfl, rfl, _, rfl, iteN (by decide) ?_⟩
      refine ⟨_, rfl, 1, rfl, a, _, rfl, ha0, by decide, fun p np => ?_⟩
      refine ⟨p, _, rfl, .inr (SqT.of upd_same), fun l nl => ?_⟩
      exact q l _ ((Adv.new (M := []) np).free (by simp) nl) upd_same ((Adv.new np).trans (Adv.new nl))
    | bin o j k =>
      refine ⟨_, rfl, a, _, 0, _, rfl, rfl, ha0, atI_nat (j := 0) rfl, rfl, _, rfl, iteN (by cases o <;> decide) ?_⟩
      refine ⟨_, rfl, 1, rfl, a, _, rfl, ha0, by simp [Nd.keys, HT.sIx], fun p np => ?_⟩
      refine ⟨p, _, rfl, .inr (SqT.of upd_same), fun l nl => ?_⟩
      refine q l _ ((Adv.new (M := []) np).free (by simp) nl) ?_ ((Adv.new np).trans (Adv.new nl))
      rw [upd_same, cut_from1]
      rfl
    | box j =>
      refine ⟨_, rfl, a, _, 0, _, rfl, rfl, ha0, atI_nat (j := 0) rfl, rfl, _, rfl, iteN (by decide) ?_⟩
      refine ⟨_, rfl, 1, rfl, a, _, rfl, ha0, by simp [Nd.keys, HT.sIx], fun p np => ?_⟩
      refine ⟨p, _, rfl, .inr (SqT.of upd_same), fun l nl => ?_⟩
      refine q l _ ((Adv.new (M := []) np).free (by simp) nl) ?_ ((Adv.new np).trans (Adv.new nl))
      rw [upd_same, cut_from1]
      rfl
theorem ok_parts (A : All K mg w) : FnOk P w K mg base CX0 1 A.parts.f A.parts.fd ["node"] (spParts true) := by
  refine A.parts.F.ok sc_parts (fun vs H Q E h => ?_) (fun cdv Ar outer s H vs Q E hr h => ?_)
  · obtain ⟨M, a, n, rfl, _⟩ := h.ex
    rfl
  · obtain ⟨M, a, n, rfl, ha, q⟩ := h.ex
    refine ⟨_, (pss_cons (ps_if (pt_cmpR op_eq (pe_ix ix_tup (pv 0) pe_int (fun _ _ => rfl)) pe_str (nomark _))
    (pss_one (ps_ret (pe_tup pa_nil)))
    pss_nil)
  (pss_one (ps_ret (pe_slice sl_tup (pv 0) (po_some pe_int) po_none)))), ?_⟩
    have ha0 : SqT K H a (n.keys.map kV) := ha.sq A.W
    cases n with
    | letter i =>
      refine ⟨_, rfl, a, _, 0, _, rfl, rfl, ha0, atI_nat (j := 0) rfl, rfl, _, rfl, iteY (by decide) ⟨by show 0 ≤ sizeLine; exact Nat.zero_le _, fun p np => ?_⟩⟩
      exact q p _ np upd_same (Adv.new np)
    | no =>
      refine ⟨_, rfl, a, _, 0, _, rfl, rfl, ha0, atI_nat (j := 0) rfl, rfl, _, rfl, iteN (by decide) ?_⟩
      exact ⟨_, rfl, 1, rfl, a, _, rfl, ha0, by decide, fun p np => q p _ np upd_same (Adv.new np)⟩
    | bin o j k =>
      refine ⟨_, rfl, a, _, 0, _, rfl, rfl, ha0, atI_nat (j := 0) rfl, rfl, _, rfl, iteN (by cases o <;> decide) ?_⟩
      refine ⟨_, rfl, 1, rfl, a, _, rfl, ha0, by simp [Nd.keys, HT.sIx], fun p np => q p _ np ?_ (Adv.new np)⟩
      rw [upd_same, cut_from1]
      rfl
    | box j =>
      refine ⟨_, rfl, a, _, 0, _, rfl, rfl, ha0, atI_nat (j := 0) rfl, rfl, _, rfl, iteN (by decide) ?_⟩
      refine ⟨_, rfl, 1, rfl, a, _, rfl, ha0, by simp [Nd.keys, HT.sIx], fun p np => q p _ np ?_ (Adv.new np)⟩
      rw [upd_same, cut_from1]
      rfl
/-! ### _law_below -/
structure BelP (vs : List V) (H : Hp) (Q : VK) : Prop where
  ex : ∃ (sh rw_ : Addr) (ns : List Nd) (rs : List V) (rows : List Nat) (boxed : Bool), vs = [.ref sh, .ref rw_] ∧ H sh = some (.lst rs) ∧ IsDs [] H (ns.map Nd.data) rs ∧ H rw_ = some (.lst (nV rows)) ∧ (∀ r ∈ rows, r < ns.length) ∧ okSheet boxed ns ∧ ns.length ≤ 10000 ∧ rows.length ≤ 10000 ∧
    ∀ l H', H l = none → H' l = some (.lst (nV (belowF ns rows))) → Adv [] H H' → Q (.ref l) H'
def spBelow : Sp := fun vs H Q _ => BelP vs H Q
theorem ok_law_below (A : All K mg w) : FnOk P w K mg base CX0 2 A.law_below.f A.law_below.fd ["sheet", "rows"] spBelow := by
  refine A.law_below.F.ok sc_law_below (fun vs H Q E h => ?_) (fun cdv Ar outer s H vs Q E hr h => ?_)
  · obtain ⟨sh, rw_, ns, rs, rows, boxed, rfl, _⟩ := h.ex
    rfl
  · obtain ⟨sh, rw_, ns, rs, rows, boxed, rfl, hsh, hds, hrw, hrows, ok, hl, hl2, q⟩ := h.ex
    refine ⟨_, (pss_cons (ps_set (i := 2) sc_law_below.nd rfl (Or.inr rfl) (pe_op op_rep (pe_lst (pa_cons pe_bl pa_nil)) (pe_callB call_len_seq (by rfl) A.T.len PySem.boot_len (pa_cons (pv 0) pa_nil))))
  (pss_cons (ps_for PassesOwn.never rfl (pi_list (pv 1)) (pg_name (i := 3) sc_law_below.nd rfl (Or.inl rfl))
    (pss_one (ps_asg pe_bl (pg_sub (pv 2) (pv 3) set_list))))
  (pss_cons (ps_for PassesOwn.never rfl (pi_range3 rfl A.T.range (pa_cons (pe_op op_sub (pe_callB call_len_seq (by rfl) A.T.len PySem.boot_len (pa_cons (pv 0) pa_nil)) pe_int) (pa_cons (pe_un un_neg pe_int) (pa_cons (pe_un un_neg pe_int) pa_nil)))) (pg_name (i := 4) sc_law_below.nd rfl (Or.inl rfl))
    (pss_one (ps_if (pt_val (pe_ix (ix_any K rfl) (pv 2) (pv 4) (fun _ _ => rfl)))
    (pss_one (ps_for PassesOwn.never rfl (pi_list (pe_call (ok_law_parts A) (hr.mono (by omega)) rfl A.law_parts.m A.law_parts.F.kp A.law_parts.b .nil pass0 (pa_cons (pe_ix ix_list (pv 0) (pv 4) (fun _ _ => rfl)) pa_nil))) (pg_name (i := 5) sc_law_below.nd rfl (Or.inl rfl))
    (pss_one (ps_asg pe_bl (pg_sub (pv 2) (pv 5) set_list)))))
    pss_nil)))
  (pss_one (ps_ret (pe_lc (own := [("at", 4)]) (g := gName 4) rfl sc_law_below.nd (pi_range1 rfl A.T.range (pa_cons (pe_callB call_len_seq (by rfl) A.T.len PySem.boot_len (pa_cons (pv 0) pa_nil)) pa_nil)) (blkOk_by (own := [("at", 4)]) (N := ["sheet", "rows", "marked", "row", "at", "part"]) (sc := defScope s_law_below) (by decide +kernel)) (fun _ _ _ _ _ => pg_name (i := 4) sc_law_below.nd rfl (Or.inl rfl)) (fun _ _ _ _ _ => pts_one (pt_val (pe_ix (ix_any K rfl) (pv 2) (pv 4) (fun _ _ => rfl)))) (fun _ _ _ _ _ => (pv 4)))))))), ?_⟩
    have hrl := hds.len
    rw [List.length_map] at hrl
    refine ⟨by show 1 ≤ sizeLine; decide, fun p np => ?_⟩
    have ap : Adv [] H (upd H p (.lst [.bl false])) := Adv.new np
    refine ⟨_, rfl, sh, rs, rfl, .inl (SqL.of (ap.same _ _ hsh)), p, (rs.length : Nat), [.bl false], rfl, rfl, upd_same, by omega, by omega, by rw [sizeLine_eq]; simp; omega, fun D nD => ?_⟩
    have e : (List.replicate ((rs.length : Nat) : Int).toNat [V.bl false]).flatten = mbV (fun _ => false) ns.length := by rw [Int.toNat_natCast, hrl]; exact mb_zero _
    rw [e]
    have aD : Adv [] H (upd (upd H p (.lst [.bl false])) D (.lst (mbV (fun _ => false) ns.length))) := ap.newT nD
    have nD0 : H D = none := ap.free (by simp) nD
    refine ⟨_, rfl, rw_, rfl, ⟨_, SqL.of (aD.same _ _ hrw)⟩, ?_⟩
    refine for_list (a := rw_) (xs := nV rows) (fun i σ' H' => ∃ x3 x4 x5, σ' = [some (.ref sh), some (.ref rw_), some (.ref D), x3, x4, x5] ∧ H' D = some (.lst (mbV (markP (fun _ => false) (rows.take i)) ns.length)) ∧ Adv [] H H')
      ⟨none, none, none, rfl, by rw [upd_same, List.take_zero, markP_nil], aD⟩ ?_ ?_ ?_
    · rintro i σ' H' hi ⟨x3, x4, x5, rfl, hD, a⟩
      exact SqL.of (a.same _ _ hrw)
    · rintro i x σ' H' hx ⟨x3, x4, x5, rfl, hD, a⟩
      obtain ⟨r, hr1, rfl⟩ : ∃ r, rows[i]? = some r ∧ V.int (r : Nat) = x := by
        unfold nV at hx
        rw [List.getElem?_map, Option.map_eq_some_iff] at hx
        exact hx
      have hrn := hrows r (List.mem_of_getElem? hr1)
      refine ⟨_, rfl, _, rfl, D, _, _, r, rfl, rfl, hD, ixN_of (by rw [mb_len]; exact hrn), ?_⟩
      refine ⟨_, _, _, rfl, ?_, a.mut nD0⟩
      rw [upd_same, mb_set, markP_snoc, List.take_succ, hr1]
      rfl
    · rintro σ' H' ⟨x3, x4, x5, rfl, hD, a⟩
      have et : rows.take (nV rows).length = rows := by unfold nV; rw [List.length_map, List.take_length]
      rw [et] at hD
      refine ⟨_, rfl, sh, rs, rfl, .inl (SqL.of (a.same _ _ hsh)), _, _, rfl, rfl, 1, rfl, 1, rfl, (rs.length : Int) - 1, -1, -1, _, rfl, RgC.neg (by omega) (by omega) (by omega) (by omega), ?_⟩
      have en : ((rs.length : Int) - 1 - -1).toNat = ns.length := by omega
      rw [en]
      refine for_rangeC (lo := (rs.length : Int) - 1) (c := -1) (n := ns.length) (fun i σ' H' => ∃ x3 x4 x5 m, σ' = [some (.ref sh), some (.ref rw_), some (.ref D), x3, x4, x5] ∧ H' D = some (.lst (mbV m ns.length)) ∧ markDown ns ns.length (markP (fun _ => false) rows) = markDown ns (ns.length - i) m ∧ Adv [] H H')
        ⟨_, _, _, _, rfl, hD, rfl, a⟩ ?_ ?_
      · rintro i σ' H1 hi ⟨x3, x4, x5, m, rfl, hD, hm, a⟩
        obtain ⟨k, hk⟩ : ∃ k, ns.length - i = k + 1 := ⟨ns.length - i - 1, by omega⟩
        have ek : (rs.length : Int) - 1 + (i : Nat) * -1 = (k : Nat) := by omega
        rw [ek]
        have hkn : k < ns.length := by omega
        have ek2 : ns.length - (i + 1) = k := by omega
        rw [hk] at hm
        have hnk : ns[k]? = some ns[k] := List.getElem?_eq_getElem hkn
        refine ⟨_, rfl, _, rfl, .inl ⟨D, _, (k : Nat), _, rfl, rfl, SqL.of hD, atI_nat (mb_at hkn), m k, rfl, iteB (fun e => ?_) (fun e => ?_)⟩⟩
        · obtain ⟨v, hv, isv⟩ := hds.get (i := k) (d := (ns[k]).data) (by rw [List.getElem?_map, hnk]; rfl)
          obtain ⟨b, rfl, hb⟩ := nd_is isv
          refine ⟨_, rfl, _, rfl, sh, rs, (k : Nat), _, rfl, rfl, SqL.of (a.same _ _ hsh), atI_nat hv, [], b, ns[k], rfl, hb.adv a, fun l H2 nl hl a2 => ?_⟩
          have hl' : H2 l = some (.lst (nV (ns[k]).parts)) := hl
          have aH2 := a.trans a2
          have nl0 : l ≠ D := fun z => by rw [z, hD] at nl; cases nl
          refine ⟨l, rfl, ⟨_, SqL.of hl'⟩, ?_⟩
          refine for_list (a := l) (xs := nV (ns[k]).parts) (fun j σ' H' => ∃ x5, σ' = [some (.ref sh), some (.ref rw_), some (.ref D), x3, some (.int (k : Nat)), x5] ∧ H' D = some (.lst (mbV (markP m ((ns[k]).parts.take j)) ns.length)) ∧ H' l = some (.lst (nV (ns[k]).parts)) ∧ Adv [] H H')
            ⟨_, rfl, by rw [List.take_zero, markP_nil]; exact a2.same _ _ hD, hl', aH2⟩ ?_ ?_ ?_
          · rintro j σ' H' hj ⟨x5, rfl, hD', hl2, a'⟩
            exact SqL.of hl2
          · rintro j x σ' H' hx ⟨x5, rfl, hD', hl2, a'⟩
            obtain ⟨r, hr1, rfl⟩ : ∃ r, (ns[k]).parts[j]? = some r ∧ V.int (r : Nat) = x := by
              unfold nV at hx
              rw [List.getElem?_map, Option.map_eq_some_iff] at hx
              exact hx
            have hrn := parts_lt (ok.2 k _ hnk) r (List.mem_of_getElem? hr1)
            refine ⟨_, rfl, _, rfl, D, _, _, r, rfl, rfl, hD', ixN_of (by rw [mb_len]; omega), ?_⟩
            refine ⟨_, rfl, ?_, by rw [upd_ne nl0]; exact hl2, a'.mut nD0⟩
            rw [upd_same, mb_set, markP_snoc, List.take_succ, hr1]
            rfl
          · rintro σ' H' ⟨x5, rfl, hD', hl2, a'⟩
            have et : (ns[k]).parts.take (nV (ns[k]).parts).length = (ns[k]).parts := by unfold nV; rw [List.length_map, List.take_length]
            rw [et] at hD'
            refine ⟨_, _, _, _, rfl, hD', ?_, a'⟩
            rw [hm, ek2]
            show markDown ns k (if m k = true then markP m ((ns[k]?.getD .no).parts) else m) = _
            rw [if_pos e, hnk]
            rfl
        · refine ⟨_, _, _, m, rfl, hD, ?_, a⟩
          rw [hm, ek2]
          show markDown ns k (if m k = true then markP m ((ns[k]?.getD .no).parts) else m) = _
          rw [if_neg (by rw [e]; decide)]
      · rintro σ' H1 ⟨x3, x4, x5, m, rfl, hD, hm, a⟩
        rw [Nat.sub_self] at hm
        have hm' : marked ns rows = m := hm
        refine ⟨_, rfl, sh, rs, rfl, .inl (SqL.of (a.same _ _ hsh)), _, rfl, by omega, by omega, fun L nL => ?_⟩
        refine lc_filtR (n := ((rs.length : Nat) : Int).toNat) (fun i => V.int (i : Nat)) m nL (by omega) ?_ ?_
        · intro i H2 acc R R0 hi a2 hL k1 k0
          have hi' : i < ns.length := by omega
          have hD2 := a2.same _ _ hD
          refine ⟨rfl, _, rfl, _, rfl, .inl ⟨D, _, _, _, rfl, rfl, SqL.of hD2, atI_nat0 (mb_at hi'), m i, rfl, iteB (fun e => ?_) (fun e => k0 e H2 hL a2)⟩⟩
          refine ⟨_, rfl, ?_⟩
          rw [Int.zero_add]
          exact k1 e H2 hL a2
        · intro H2 a2 hL
          refine q L H2 (a.free (by simp) nL) ?_ (a.trans a2)
          rw [hL]
          unfold belowF nV
          rw [hm', Int.toNat_natCast, hrl]
/-! ### rows_below -/
theorem ok_rows_below (A : All K mg w) : FnOk P w K mg base CX0 2 A.rows_below.f A.rows_below.fd ["sheet", "rows"] spBelow := by
  refine A.rows_below.F.ok sc_rows_below (fun vs H Q E h => ?_) (fun cdv Ar outer s H vs Q E hr h => ?_)
  · obtain ⟨sh, rw_, ns, rs, rows, boxed, rfl, _⟩ := h.ex
    rfl
  · obtain ⟨sh, rw_, ns, rs, rows, boxed, rfl, hsh, hds, hrw, hrows, ok, hl, hl2, q⟩ := h.ex
    refine ⟨_, (pss_cons (ps_set (i := 2) sc_rows_below.nd rfl (Or.inr rfl) (pe_op op_rep (pe_lst (pa_cons pe_bl pa_nil)) (pe_callB call_len_seq (by rfl) A.T.len PySem.boot_len (pa_cons (pv 0) pa_nil))))
  (pss_cons (ps_for PassesOwn.never rfl (pi_list (pv 1)) (pg_name (i := 3) sc_rows_below.nd rfl (Or.inl rfl))
    (pss_one (ps_asg pe_bl (pg_sub (pv 2) (pv 3) set_list))))
  (pss_cons (ps_for PassesOwn.never rfl (pi_range3 rfl A.T.range (pa_cons (pe_op op_sub (pe_callB call_len_seq (by rfl) A.T.len PySem.boot_len (pa_cons (pv 0) pa_nil)) pe_int) (pa_cons (pe_un un_neg pe_int) (pa_cons (pe_un un_neg pe_int) pa_nil)))) (pg_name (i := 3) sc_rows_below.nd rfl (Or.inl rfl))
    (pss_one (ps_if (pt_val (pe_ix (ix_any K rfl) (pv 2) (pv 3) (fun _ _ => rfl)))
    (pss_one (ps_for PassesOwn.never rfl (pi_tup (pe_call (ok_parts A) (hr.mono (by omega)) rfl A.parts.m A.parts.F.kp A.parts.b .nil pass0 (pa_cons (pe_ix ix_list (pv 0) (pv 3) (fun _ _ => rfl)) pa_nil))) (pg_name (i := 4) sc_rows_below.nd rfl (Or.inl rfl))
    (pss_one (ps_asg pe_bl (pg_sub (pv 2) (pv 4) set_list)))))
    pss_nil)))
  (pss_one (ps_ret (pe_lc (own := [("row", 3)]) (g := gName 3) rfl sc_rows_below.nd (pi_range1 rfl A.T.range (pa_cons (pe_callB call_len_seq (by rfl) A.T.len PySem.boot_len (pa_cons (pv 0) pa_nil)) pa_nil)) (blkOk_by (own := [("row", 3)]) (N := ["sheet", "rows", "marked", "row", "part"]) (sc := defScope s_rows_below) (by decide +kernel)) (fun _ _ _ _ _ => pg_name (i := 3) sc_rows_below.nd rfl (Or.inl rfl)) (fun _ _ _ _ _ => pts_one (pt_val (pe_ix (ix_any K rfl) (pv 2) (pv 3) (fun _ _ => rfl)))) (fun _ _ _ _ _ => (pv 3)))))))), ?_⟩
    have hrl := hds.len
    rw [List.length_map] at hrl
    refine ⟨by show 1 ≤ sizeLine; decide, fun p np => ?_⟩
    have ap : Adv [] H (upd H p (.lst [.bl false])) := Adv.new np
    refine ⟨_, rfl, sh, rs, rfl, .inl (SqL.of (ap.same _ _ hsh)), p, (rs.length : Nat), [.bl false], rfl, rfl, upd_same, by omega, by omega, by rw [sizeLine_eq]; simp; omega, fun D nD => ?_⟩
    have e : (List.replicate ((rs.length : Nat) : Int).toNat [V.bl false]).flatten = mbV (fun _ => false) ns.length := by rw [Int.toNat_natCast, hrl]; exact mb_zero _
    rw [e]
    have aD : Adv [] H (upd (upd H p (.lst [.bl false])) D (.lst (mbV (fun _ => false) ns.length))) := ap.newT nD
    have nD0 : H D = none := ap.free (by simp) nD
    refine ⟨_, rfl, rw_, rfl, ⟨_, SqL.of (aD.same _ _ hrw)⟩, ?_⟩
    refine for_list (a := rw_) (xs := nV rows) (fun i σ' H' => ∃ x3 x4, σ' = [some (.ref sh), some (.ref rw_), some (.ref D), x3, x4] ∧ H' D = some (.lst (mbV (markP (fun _ => false) (rows.take i)) ns.length)) ∧ Adv [] H H')
      ⟨none, none, rfl, by rw [upd_same, List.take_zero, markP_nil], aD⟩ ?_ ?_ ?_
    · rintro i σ' H' hi ⟨x3, x4, rfl, hD, a⟩
      exact SqL.of (a.same _ _ hrw)
    · rintro i x σ' H' hx ⟨x3, x4, rfl, hD, a⟩
      obtain ⟨r, hr1, rfl⟩ : ∃ r, rows[i]? = some r ∧ V.int (r : Nat) = x := by
        unfold nV at hx
        rw [List.getElem?_map, Option.map_eq_some_iff] at hx
        exact hx
      have hrn := hrows r (List.mem_of_getElem? hr1)
      refine ⟨_, rfl, _, rfl, D, _, _, r, rfl, rfl, hD, ixN_of (by rw [mb_len]; exact hrn), ?_⟩
      refine ⟨_, _, rfl, ?_, a.mut nD0⟩
      rw [upd_same, mb_set, markP_snoc, List.take_succ, hr1]
      rfl
    · rintro σ' H' ⟨x3, x4, rfl, hD, a⟩
      have et : rows.take (nV rows).length = rows := by unfold nV; rw [List.length_map, List.take_length]
      rw [et] at hD
      refine ⟨_, rfl, sh, rs, rfl, .inl (SqL.of (a.same _ _ hsh)), _, _, rfl, rfl, 1, rfl, 1, rfl, (rs.length : Int) - 1, -1, -1, _, rfl, RgC.neg (by omega) (by omega) (by omega) (by omega), ?_⟩
      have en : ((rs.length : Int) - 1 - -1).toNat = ns.length := by omega
      rw [en]
      refine for_rangeC (lo := (rs.length : Int) - 1) (c := -1) (n := ns.length) (fun i σ' H' => ∃ x3 x4 m, σ' = [some (.ref sh), some (.ref rw_), some (.ref D), x3, x4] ∧ H' D = some (.lst (mbV m ns.length)) ∧ markDown ns ns.length (markP (fun _ => false) rows) = markDown ns (ns.length - i) m ∧ Adv [] H H')
        ⟨_, _, _, rfl, hD, rfl, a⟩ ?_ ?_
      · rintro i σ' H1 hi ⟨x3, x4, m, rfl, hD, hm, a⟩
        obtain ⟨k, hk⟩ : ∃ k, ns.length - i = k + 1 := ⟨ns.length - i - 1, by omega⟩
        have ek : (rs.length : Int) - 1 + (i : Nat) * -1 = (k : Nat) := by omega
        rw [ek]
        have hkn : k < ns.length := by omega
        have ek2 : ns.length - (i + 1) = k := by omega
        rw [hk] at hm
        have hnk : ns[k]? = some ns[k] := List.getElem?_eq_getElem hkn
        refine ⟨_, rfl, _, rfl, .inl ⟨D, _, (k : Nat), _, rfl, rfl, SqL.of hD, atI_nat (mb_at hkn), m k, rfl, iteB (fun e => ?_) (fun e => ?_)⟩⟩
        · obtain ⟨v, hv, isv⟩ := hds.get (i := k) (d := (ns[k]).data) (by rw [List.getElem?_map, hnk]; rfl)
          obtain ⟨b, rfl, hb⟩ := nd_is isv
          refine ⟨_, rfl, _, rfl, sh, rs, (k : Nat), _, rfl, rfl, SqL.of (a.same _ _ hsh), atI_nat hv, [], b, ns[k], rfl, hb.adv a, fun l H2 nl hl a2 => ?_⟩
          have hl' : H2 l = some (.tup (nV (ns[k]).parts)) := hl
          have aH2 := a.trans a2
          have nl0 : l ≠ D := fun z => by rw [z, hD] at nl; cases nl
          refine ⟨l, rfl, ⟨_, SqT.of hl'⟩, ?_⟩
          refine for_tup (a := l) (xs := nV (ns[k]).parts) (fun j σ' H' => ∃ x5, σ' = [some (.ref sh), some (.ref rw_), some (.ref D), some (.int (k : Nat)), x5] ∧ H' D = some (.lst (mbV (markP m ((ns[k]).parts.take j)) ns.length)) ∧ H' l = some (.tup (nV (ns[k]).parts)) ∧ Adv [] H H')
            ⟨_, rfl, by rw [List.take_zero, markP_nil]; exact a2.same _ _ hD, hl', aH2⟩ ?_ ?_ ?_
          · rintro j σ' H' hj ⟨x5, rfl, hD', hl2, a'⟩
            exact SqT.of hl2
          · rintro j x σ' H' hx ⟨x5, rfl, hD', hl2, a'⟩
            obtain ⟨r, hr1, rfl⟩ : ∃ r, (ns[k]).parts[j]? = some r ∧ V.int (r : Nat) = x := by
              unfold nV at hx
              rw [List.getElem?_map, Option.map_eq_some_iff] at hx
              exact hx
            have hrn := parts_lt (ok.2 k _ hnk) r (List.mem_of_getElem? hr1)
            refine ⟨_, rfl, _, rfl, D, _, _, r, rfl, rfl, hD', ixN_of (by rw [mb_len]; omega), ?_⟩
            refine ⟨_, rfl, ?_, by rw [upd_ne nl0]; exact hl2, a'.mut nD0⟩
            rw [upd_same, mb_set, markP_snoc, List.take_succ, hr1]
            rfl
          · rintro σ' H' ⟨x5, rfl, hD', hl2, a'⟩
            have et : (ns[k]).parts.take (nV (ns[k]).parts).length = (ns[k]).parts := by unfold nV; rw [List.length_map, List.take_length]
            rw [et] at hD'
            refine ⟨_, _, _, rfl, hD', ?_, a'⟩
            rw [hm, ek2]
            show markDown ns k (if m k = true then markP m ((ns[k]?.getD .no).parts) else m) = _
            rw [if_pos e, hnk]
            rfl
        · refine ⟨_, _, m, rfl, hD, ?_, a⟩
          rw [hm, ek2]
          show markDown ns k (if m k = true then markP m ((ns[k]?.getD .no).parts) else m) = _
          rw [if_neg (by rw [e]; decide)]
      · rintro σ' H1 ⟨x3, x4, m, rfl, hD, hm, a⟩
        rw [Nat.sub_self] at hm
        have hm' : marked ns rows = m := hm
        refine ⟨_, rfl, sh, rs, rfl, .inl (SqL.of (a.same _ _ hsh)), _, rfl, by omega, by omega, fun L nL => ?_⟩
        refine lc_filtR (n := ((rs.length : Nat) : Int).toNat) (fun i => V.int (i : Nat)) m nL (by omega) ?_ ?_
        · intro i H2 acc R R0 hi a2 hL k1 k0
          have hi' : i < ns.length := by omega
          have hD2 := a2.same _ _ hD
          refine ⟨rfl, _, rfl, _, rfl, .inl ⟨D, _, _, _, rfl, rfl, SqL.of hD2, atI_nat0 (mb_at hi'), m i, rfl, iteB (fun e => ?_) (fun e => k0 e H2 hL a2)⟩⟩
          refine ⟨_, rfl, ?_⟩
          rw [Int.zero_add]
          exact k1 e H2 hL a2
        · intro H2 a2 hL
          refine q L H2 (a.free (by simp) nL) ?_ (a.trans a2)
          rw [hL]
          unfold belowF nV
          rw [hm', Int.toNat_natCast, hrl]
end
end K59

set_option Elab.async false
set_option linter.all false
set_option maxRecDepth 100000
set_option maxHeartbeats 400000
namespace K59
open PySem PySem.Spec PyProof.Rows L2 LL
section
variable [KW]
variable {P : Program} {w : World} {K : PySem.W.Frag} {mg : Str → Option Value} {base : Heap}
/-! ### _law_book -/
structure BookP (vs : List V) (H : Hp) (Q : VK) : Prop where
  ex : ∃ (M : List Addr) (sh : Addr) (rs : List V) (ns : List Nd), vs = [.ref sh] ∧ H sh = some (.lst rs) ∧ IsDs M H (ns.map Nd.data) rs ∧ (∀ b ∈ M, H b ≠ none) ∧ ns.Nodup ∧ ns.length ≤ 10000 ∧
    ∀ bk b0 b1 H', H b0 = none → H b1 = none → bk ∉ b0 :: b1 :: M → H' bk = some (.lst [.ref b0, .ref b1]) → BkN (b0 :: b1 :: M) H' b0 b1 ns → Adv [] H H' → Q (.ref bk) H'
def spBook : Sp := fun vs H Q _ => BookP vs H Q
theorem not_take {ns : List Nd} (hn : ns.Nodup) {i : Nat} (hi : i < ns.length) : ns[i] ∉ ns.take i := fun z => by
  obtain ⟨j, hj, e⟩ := List.getElem_of_mem z
  rw [List.length_take] at hj
  rw [List.getElem_take] at e
  exact List.pairwise_iff_getElem.mp hn j i (by omega) hi (by omega) e
theorem ok_law_book (A : All K mg w) : FnOk P w K mg base CX0 1 A.law_book.f A.law_book.fd ["sheet"] spBook := by
  refine A.law_book.F.ok sc_law_book (fun vs H Q E h => ?_) (fun cdv Ar outer s H vs Q E hr h => ?_)
  · obtain ⟨M, sh, rs, ns, rfl, _⟩ := h.ex
    rfl
  · obtain ⟨M, sh, rs, ns, rfl, hsh, hds, hal, hnd, hl, q⟩ := h.ex
    refine ⟨_, (pss_cons (ps_set (i := 1) sc_law_book.nd rfl (Or.inl rfl) (pe_dnewX A.W))
  (pss_cons (ps_for PassesOwn.never rfl (pi_range1 rfl A.T.range (pa_cons (pe_callB call_len_seq (by rfl) A.T.len PySem.boot_len (pa_cons (pv 0) pa_nil)) pa_nil)) (pg_name (i := 2) sc_law_book.nd rfl (Or.inl rfl))
    (pss_one (ps_dputX A.W (hu_of hr) (pv 1) (pe_ix ix_list (pv 0) (pv 2) (fun _ _ => rfl)) (pv 2) rfl)))
  (pss_one (ps_ret (pe_lst (pa_cons (pe_callTy call_list_of (by rfl) A.T.list (by decide +kernel) (pa_cons (pv 0) pa_nil)) (pa_cons (pv 1) pa_nil))))))), ?_⟩
    have hrl := hds.len
    rw [List.length_map] at hrl
    intro T nT
    have aT : Adv [] H (upd H T (dxo T [])) := Adv.new nT
    refine ⟨_, rfl, sh, rs, rfl, .inl (SqL.of (aT.same _ _ hsh)), _, rfl, by omega, by omega, ?_⟩
    refine for_range (lo := 0) (n := ((rs.length : Nat) : Int).toNat) (fun i σ' H' => ∃ x2, σ' = [some (.ref sh), some (.ref T), x2] ∧ Tab (T :: M) H' T (tabG 0 (ns.take i)) ∧ Adv [] H H') ⟨_, rfl, Tab.new upd_same, aT⟩ ?_ ?_
    · rintro i σ' H' hi ⟨x2, rfl, hT, a⟩
      have hi' : i < ns.length := by omega
      have hni : ns[i]? = some ns[i] := List.getElem?_eq_getElem hi'
      obtain ⟨v, hv, isv⟩ := hds.get (i := i) (d := (ns[i]).data) (by rw [List.getElem?_map, hni]; rfl)
      obtain ⟨b, rfl, hb⟩ := nd_is isv
      have hmem : memK (ns[i]).keys ((tabG 0 (ns.take i)).map (·.1)) = false := by
        rw [← val_mem, tab_val, if_neg (not_take hnd hi')]; rfl
      obtain ⟨o, hg, t2⟩ := hT.putH A.W (by simp) ((hb.fresh nT).adv (Adv.nil a)) (by rw [tab_len, List.length_take, sizeLine_eq]; omega) (.int (i : Nat))
      rw [put_new _ _ _ hmem] at t2
      refine ⟨_, rfl, _, rfl, _, rfl, _, rfl, sh, rs, _, _, rfl, rfl, SqL.of (a.same _ _ hsh), atI_nat0 hv, T, _, rfl, by rw [Int.zero_add]; exact hg, ?_⟩
      refine ⟨_, rfl, ?_, a.mut nT⟩
      rw [List.take_succ, hni, Option.toList_some, tab_app, List.length_take, Nat.min_eq_left (Nat.le_of_lt hi'), Nat.zero_add]
      exact t2
    · rintro σ' H' ⟨x2, rfl, hT, a⟩
      have et : ns.take ((rs.length : Nat) : Int).toNat = ns := by rw [Int.toNat_natCast, hrl, List.take_length]
      rw [et] at hT
      refine ⟨_, rfl, sh, rs, rfl, .inl (SqL.of (a.same _ _ hsh)), fun b0 n0 => ⟨_, rfl, by show 2 ≤ sizeLine; decide, fun bk nk => ?_⟩⟩
      have a0 : Adv [] H' (upd H' b0 (.lst rs)) := Adv.new n0
      have a1 := a0.newT (o := .lst [.ref b0, .ref T]) nk
      have hT1 := hT.same a1
      have h01 : b0 ≠ T := fun z => hT.here (by rw [← z]; exact n0)
      have hk0 : bk ≠ b0 := fun z => by rw [z, upd_same] at nk; cases nk
      have nk' : H' bk = none := a0.free (by simp) nk
      have hkT : bk ≠ T := fun z => hT.here (by rw [← z]; exact nk')
      have aH := a.trans a1
      have n0H : H b0 = none := a.free (by simp) n0
      have hb0 : (upd (upd H' b0 (.lst rs)) bk (.lst [.ref b0, .ref T])) b0 = some (.lst rs) := by rw [upd_ne hk0.symm, upd_same]
      have hkM : bk ∉ M := fun z => hal bk z (a.free (by simp) nk')
      refine q bk b0 T _ n0H nT (by simp [hk0, hkT, hkM]) upd_same ⟨⟨rs, hb0, ?_⟩, (hT.fresh n0).same a1, by simp, by simp, h01, fun b hb => ?_⟩ aH
      · exact ((hds.fresh nT).fresh n0H).adv (Adv.nil aH)
      · rcases List.mem_cons.mp hb with e | hb
        · rw [e, hb0]; simp
        · rcases List.mem_cons.mp hb with e | hb
          · rw [e]; exact hT1.here
          · cases eb : H b with
            | none => exact absurd eb (hal b hb)
            | some o => rw [aH.same _ _ eb]; simp
/-! ### places -/
structure PlacesP (vs : List V) (H : Hp) (Q : VK) : Prop where
  ex : ∃ (M : List Addr) (sh : Addr) (rs : List V) (ns : List Nd), vs = [.ref sh] ∧ H sh = some (.lst rs) ∧ IsDs M H (ns.map Nd.data) rs ∧ ns.Nodup ∧ ns.length ≤ 10000 ∧
    ∀ T H', H T = none → Tab (T :: M) H' T (tabG 0 ns) → Adv [] H H' → Q (.ref T) H'
def spPlaces : Sp := fun vs H Q _ => PlacesP vs H Q
theorem ok_places (A : All K mg w) : FnOk P w K mg base CX0 1 A.places.f A.places.fd ["sheet"] spPlaces := by
  refine A.places.F.ok sc_places (fun vs H Q E h => ?_) (fun cdv Ar outer s H vs Q E hr h => ?_)
  · obtain ⟨M, sh, rs, ns, rfl, _⟩ := h.ex
    rfl
  · obtain ⟨M, sh, rs, ns, rfl, hsh, hds, hnd, hl, q⟩ := h.ex
    refine ⟨_, (pss_cons (ps_set (i := 1) sc_places.nd rfl (Or.inl rfl) (pe_dnewX A.W))
  (pss_cons (ps_for PassesOwn.never rfl (pi_enum (by rfl) A.T.enumerate (pa_cons (pv 0) pa_nil)) (pg_tup rfl (pgs_cons (pg_name (i := 2) sc_places.nd rfl (Or.inl rfl)) (pgs_cons (pg_name (i := 3) sc_places.nd rfl (Or.inl rfl)) pgs_nil)))
    (pss_one (ps_dputX A.W (hu_of hr) (pv 1) (pv 3) (pv 2) rfl)))
  (pss_one (ps_ret (pv 1))))), ?_⟩
    have hrl := hds.len
    rw [List.length_map] at hrl
    intro D nD
    have aD : Adv [] H (upd H D (dxo D [])) := Adv.new nD
    refine ⟨_, rfl, sh, rs, rfl, SqL.of (aD.same _ _ hsh), ?_⟩
    refine for_enum (K := K) (a := sh) (xs := rs) (fun i σ' H' => ∃ x2 x3, σ' = [some (.ref sh), some (.ref D), x2, x3] ∧ Tab (D :: M) H' D (tabG 0 (ns.take i)) ∧ Adv [] H H') ⟨_, _, rfl, Tab.new upd_same, aD⟩ (fun i σ' H' _ ⟨_, _, _, _, a'⟩ => a'.same _ _ hsh) ?_ ?_
    · rintro i x T σ' H' hx ⟨x2, x3, rfl, hD, a⟩ nT
      have hi' : i < ns.length := by have := (List.getElem?_eq_some_iff.mp hx).1; omega
      have hni : ns[i]? = some ns[i] := List.getElem?_eq_getElem hi'
      obtain ⟨v, hv, isv⟩ := hds.get (i := i) (d := (ns[i]).data) (by rw [List.getElem?_map, hni]; rfl)
      rw [hx] at hv
      cases hv
      obtain ⟨b, rfl, hb⟩ := nd_is isv
      have hmem : memK (ns[i]).keys ((tabG 0 (ns.take i)).map (·.1)) = false := by
        rw [← val_mem, tab_val, if_neg (not_take hnd hi')]; rfl
      have aT := a.newT (o := .tup [.int (i : Nat), .ref b]) nT
      have hDT := hD.same (Adv.new (o := .tup [.int (i : Nat), .ref b]) nT)
      obtain ⟨o, hg, t2⟩ := hDT.putH A.W (by simp) ((hb.fresh nD).adv (Adv.nil aT)) (by rw [tab_len, List.length_take, sizeLine_eq]; omega) (.int (i : Nat))
      rw [put_new _ _ _ hmem] at t2
      refine ⟨T, _, rfl, SqT.of upd_same, rfl, _, _, rfl, _, _, rfl, rfl, ?_⟩
      refine ⟨_, rfl, _, rfl, _, rfl, D, _, rfl, hg, ?_⟩
      refine ⟨_, _, rfl, ?_, aT.mut nD⟩
      rw [List.take_succ, hni, Option.toList_some, tab_app, List.length_take, Nat.min_eq_left (Nat.le_of_lt hi'), Nat.zero_add]
      exact t2
    · rintro σ' H' ⟨x2, x3, rfl, hD, a⟩
      have et : ns.take rs.length = ns := by rw [hrl, List.take_length]
      rw [et] at hD
      exact ⟨_, rfl, q D H' nD hD a⟩
end
end K59

set_option Elab.async false
set_option linter.all false
set_option maxRecDepth 100000
set_option maxHeartbeats 400000
namespace K59
open PySem PySem.Spec PyProof.Rows L2 LL
section
variable [KW]
variable {P : Program} {w : World} {K : PySem.W.Frag} {mg : Str → Option Value} {base : Heap}
/-! ### row_for -/
structure RowForP (vs : List V) (H : Hp) (Q : VK) : Prop where
  ex : ∃ (M : List Addr) (b0 b1 nd : Addr) (ns : List Nd) (n : Nd), vs = [.ref b0, .ref b1, .ref nd] ∧ BkN M H b0 b1 ns ∧ Tp M H nd (n.keys.map kV) ∧ ns.length ≤ 1000000 ∧
    ∀ H', BkN M H' b0 b1 (rowF ns n).2 → Adv [b0, b1] H H' → Q (.int ((rowF ns n).1 : Nat)) H'
def spRowFor : Sp := fun vs H Q _ => RowForP vs H Q
theorem ok_row_for (A : All K mg w) : FnOk P w K mg base CX0 1 A.row_for.f A.row_for.fd ["sheet", "table", "node"] spRowFor := by
  refine A.row_for.F.ok sc_row_for (fun vs H Q E h => ?_) (fun cdv Ar outer s H vs Q E hr h => ?_)
  · obtain ⟨M, b0, b1, nd, ns, n, rfl, _⟩ := h.ex
    rfl
  · obtain ⟨M, b0, b1, nd, ns, n, rfl, B, hnd, hl, q⟩ := h.ex
    refine ⟨_, (pss_cons (ps_if (pt_cmp (pc_dnotinX A.W (hu_of hr) (pv 2) (pv 1)))
    (pss_cons (ps_dputX A.W (hu_of hr) (pv 1) (pv 2) (pe_callB call_len_seq (by rfl) A.T.len PySem.boot_len (pa_cons (pv 0) pa_nil)) rfl)
  (pss_one (ps_expr (pe_bm PySem.F.plainAttrs_list PySem.F.slot_list_append PySem.F.type_list_append mt_append (pv 0) (pa_cons (pv 2) pa_nil)))))
    pss_nil)
  (pss_one (ps_ret (pe_dgetX A.W (hu_of hr) (pv 1) (pv 2) (fun _ _ => rfl))))), ?_⟩
    obtain ⟨⟨rs, r0, rd⟩, r1, m0, m1, n01, al⟩ := id B
    have hrl : rs.length = ns.length := by have := rd.len; rw [List.length_map] at this; exact this
    have hv := tab_val 0 ns n
    refine ⟨_, rfl, _, rfl, b1, _, rfl, r1.get A.W hnd, _, rfl, ?_⟩
    by_cases hm : n ∈ ns
    · rw [if_pos hm, Nat.zero_add] at hv
      rw [hv]
      refine iteN rfl ?_
      refine ⟨_, rfl, _, rfl, b1, .int (ns.idxOf n : Nat), rfl, by have := r1.get A.W hnd; rw [hv] at this; exact this, ?_⟩
      unfold rowF at q
      rw [if_pos hm] at q
      exact q H B (Adv.refl _ _)
    · rw [if_neg hm] at hv
      rw [hv]
      refine iteY rfl ?_
      obtain ⟨o, hg, B2⟩ := B.push A.W r0 hnd hm (by rw [sizeLine_eq]; omega)
      refine ⟨_, rfl, b0, rs, rfl, .inl (SqL.of r0), ?_⟩
      refine ⟨_, rfl, _, rfl, b1, _, rfl, hg, ?_⟩
      have r01 : (upd H b1 o) b0 = some (.lst rs) := by rw [upd_ne n01]; exact r0
      refine ⟨_, rfl, .inl ⟨rfl, _, SqL.of r01⟩, _, rfl, b0, rs, _, rfl, rfl, r01, by rw [sizeLine_eq]; omega, ?_⟩
      have aa : Adv [b0, b1] H (upd (upd H b1 o) b0 (.lst (rs ++ [.ref nd]))) := (Adv.set (by simp)).trans (Adv.set (by simp))
      have hnd2 := hnd.adv (aa.more (by simp [m0, m1]))
      have hval : valV (tabG 0 (ns ++ [n])) n.keys = some (.int (ns.length : Nat)) := by
        rw [tab_val, if_pos (by simp), Nat.zero_add, List.idxOf_append, if_neg hm]
        simp [List.idxOf_cons]
      refine ⟨_, rfl, _, rfl, b1, _, rfl, by have := B2.tab.get A.W hnd2; rw [hval] at this; exact this, ?_⟩
      unfold rowF at q
      rw [if_neg hm] at q
      exact q _ B2 aa
end
end K59

set_option Elab.async false
set_option linter.all false
set_option maxRecDepth 100000
set_option maxHeartbeats 400000
namespace K59
open PySem PySem.Spec PyProof.Rows L2 LL
section
variable [KW]
variable {P : Program} {w : World} {K : PySem.W.Frag} {mg : Str → Option Value} {base : Heap}
/-! ### _law_moved -/
structure MovedP (vs : List V) (H : Hp) (Q : VK) : Prop where
  ex : ∃ (M : List Addr) (a d : Addr) (n : Nd) (l : List Nat) (f : Nat → Nat), vs = [.ref a, .ref d] ∧ Tp M H a (n.keys.map kV) ∧ (∀ b ∈ M, H b ≠ none) ∧ H d = some (.dK (newT l f)) ∧ (∀ p ∈ n.parts, p ∈ l) ∧
    ∀ p H', Tp M H' p ((n.moved f).keys.map kV) → Adv [] H H' → Q (.ref p) H'
theorem moved_keys {n : Nd} (f : Nat → Nat) (h : ∀ i, n ≠ .letter i) : ∃ wd : Str, n.keys.map kV = V.str wd :: nV n.parts ∧ (n.moved f).keys.map kV = V.str wd :: nV (n.parts.map f) ∧ decide (V.str wd = V.str "letter") = false := by
  cases n with
  | letter i => exact absurd rfl (h i)
  | no => exact ⟨"no", rfl, rfl, by decide⟩
  | bin o j k => exact ⟨o.str, rfl, rfl, by cases o <;> decide⟩
  | box j => exact ⟨"box", rfl, rfl, by decide⟩
def spMoved : Sp := fun vs H Q _ => MovedP vs H Q
theorem ok_law_moved (A : All K mg w) : FnOk P w K mg base CX0 1 A.law_moved.f A.law_moved.fd ["node", "new"] spMoved := by
  refine A.law_moved.F.ok sc_law_moved (fun vs H Q E h => ?_) (fun cdv Ar outer s H vs Q E hr h => ?_)
  · obtain ⟨M, a, d, n, l, f, rfl, _⟩ := h.ex
    rfl
  · obtain ⟨M, a, d, n, l, f, rfl, ha, hal, hd, hp, q⟩ := h.ex
    refine ⟨_, (pss_one (ps_ret (pe_ifExp (pt_cmpR op_eq (pe_ix ix_tup (pv 0) pe_int (fun _ _ => rfl)) pe_str (nomark _)) (pv 0) (pe_callTy call_tuple_of (by rfl) A.T.tuple (by decide +kernel) (pa_cons (pe_op op_cat (pe_lst (pa_cons (pe_ix ix_tup (pv 0) pe_int (fun _ _ => rfl)) pa_nil)) (pe_lc (own := [("part", 2)]) (g := gName 2) rfl sc_law_moved.nd (pi_tup (pe_slice sl_tup (pv 0) (po_some pe_int) po_none)) (blkOk_by (own := [("part", 2)]) (N := ["node", "new", "part"]) (sc := defScope s_law_moved) (by decide +kernel)) (fun _ _ _ _ _ => pg_name (i := 2) sc_law_moved.nd rfl (Or.inl rfl)) (fun _ _ _ _ _ => pts_nil) (fun _ _ _ _ _ => (pe_dget (hu_of hr) (pv 1) (pv 2) (fun _ _ => rfl))))) pa_nil))))), ?_⟩
    by_cases hlet : ∃ i, n = .letter i
    · obtain ⟨i, rfl⟩ := hlet
      refine ⟨_, rfl, a, _, 0, _, rfl, rfl, ha.sq A.W, atI_nat (j := 0) rfl, rfl, _, rfl, iteY (by decide) ⟨_, rfl, ?_⟩⟩
      exact q a H ha (Adv.refl _ _)
    · obtain ⟨wd, e1, e2, e3⟩ := moved_keys (n := n) f (fun i z => hlet ⟨i, z⟩)
      rw [e1] at ha
      have hpl : n.parts.length ≤ 2 := by cases n <;> simp [Nd.parts]
      refine ⟨_, rfl, a, _, 0, _, rfl, rfl, ha.sq A.W, atI_nat (j := 0) rfl, rfl, _, rfl, iteN e3 ?_⟩
      refine ⟨_, rfl, a, _, 0, _, rfl, rfl, ha.sq A.W, atI_nat (j := 0) rfl, by show 1 ≤ sizeLine; decide, fun p0 n0 => ?_⟩
      have a0 : Adv [] H (upd H p0 (.lst [.str wd])) := Adv.new n0
      refine ⟨_, rfl, 1, rfl, a, _, rfl, (ha.adv (Adv.nil a0)).sq A.W, ?_, fun p1 n1 => ?_⟩
      · intro z
        have z1 := z.1
        rw [show HT.sIx (V.str wd :: nV n.parts).length 0 (some 1) = min 1 (V.str wd :: nV n.parts).length from HT.sIx_nat _ 0 1, List.length_cons] at z1
        omega
      · rw [cut_from1]
        have a1 : Adv [] H (upd (upd H p0 (.lst [.str wd])) p1 (.tup (nV n.parts))) := a0.newT n1
        refine ⟨p1, rfl, ⟨_, SqT.of upd_same⟩, fun D nD => ?_⟩
        refine lc_mapT (K := K) (a := p1) (xs := nV n.parts) (fun i => V.int ((f (n.parts.getD i 0) : Nat) : Int)) nD (SqT.of upd_same) (by unfold nV; rw [List.length_map]; omega) ?_ ?_
        · intro i x H2 acc R hx a2 hD k
          obtain ⟨r, hr1, rfl⟩ : ∃ r, n.parts[i]? = some r ∧ V.int (r : Nat) = x := by
            unfold nV at hx
            rw [List.getElem?_map, Option.map_eq_some_iff] at hx
            exact hx
          have hrl := hp r (List.mem_of_getElem? hr1)
          have hd2 := (a1.trans a2).same _ _ hd
          have er : n.parts.getD i 0 = r := by rw [List.getD_eq_getElem?_getD, hr1]; rfl
          refine ⟨rfl, _, rfl, _, rfl, d, .int (f r : Nat), rfl, by have := DGet.k (k := (Sum.inl (r : Int) : Key)) hd2; rw [new_val, if_pos hrl] at this; exact this, ?_⟩
          have := k H2 hD a2
          rw [er] at this
          exact this
        · intro H2 a2 hD
          have a02 := a1.trans a2
          have hp0 := ((Adv.new (M := []) (o := .tup (nV n.parts)) n1).trans a2).same _ _ (upd_same (H := H) (a := p0) (o := .lst [.str wd]))
          have el : ((List.range (nV n.parts).length).map fun i => V.int ((f (n.parts.getD i 0) : Nat) : Int)) = nV (n.parts.map f) := by
            unfold nV
            apply List.ext_getElem
            · simp
            · intro i h1 h2
              have hi : i < n.parts.length := by simpa using h1
              simp [hi]
          rw [el] at hD
          refine ⟨p0, D, _, _, rfl, rfl, hp0, hD, by unfold nV; simp [sizeLine_eq]; omega, fun p2 n2 => ?_⟩
          have a3 := a02.newT (o := .lst ([.str wd] ++ nV (n.parts.map f))) n2
          refine ⟨p2, _, rfl, .inl ⟨SqL.of upd_same, fun p3 n3 => ?_⟩⟩
          exact q p3 _ (Tp.of (by rw [upd_same, e2]; rfl) (not_mem_new hal (a3.free (by simp) n3))) (a3.newT n3)
end
end K59

set_option Elab.async false
set_option linter.all false
set_option maxRecDepth 100000
set_option maxHeartbeats 400000
namespace K59
open PySem PySem.Spec PyProof.Rows L2 LL
local macro_rules | `(tactic| walk_at "ne") => `(tactic| first | assumption | (apply Ne.symm; assumption) | exact ne_of_none (by walk_at "hp") (by assumption) | exact (ne_of_none (by walk_at "hp") (by assumption)).symm)
local macro_rules | `(tactic| walk_at "nm") => `(tactic| first | assumption | exact notin0 | exact notin1 (by walk_at "ne") | exact notin2 (by walk_at "ne") (by walk_at "ne"))
local macro_rules | `(tactic| walk_at "hp") => `(tactic| first | assumption | exact upd_same | (refine Eq.trans (upd_ne ?ne) ?hh; (case hh => walk_at "hp"); (case ne => walk_at "ne")) | (refine Adv.get' (by assumption) ?hh ?nn; (case hh => walk_at "hp"); (case nn => walk_at "nm")))
local macro_rules | `(tactic| walk_at "tp") => `(tactic| first | assumption | exact Tp.adv (by walk_at "tp") (by assumption) | exact Tp.adv (by walk_at "tp") (Adv.nil (by assumption)))
local macro_rules | `(tactic| walk_at "sq") => `(tactic| first | assumption | exact Tp.sq (by assumption) (by walk_at "tp") | exact SqT.of (by walk_at "hp"))
local macro_rules | `(tactic| walk_at "at") => `(tactic| first | exact atI_nat (j := 0) rfl | exact atI_nat (j := 1) rfl | exact atI_nat (j := 2) rfl | exact atI_nat (j := 3) rfl | exact atI_nat (by assumption) | (rw [Int.zero_add]; exact atI_nat (by assumption)))
local macro_rules | `(tactic| walk_at "bb") => `(tactic| first | assumption | decide | exact rfl)
local macro_rules | `(tactic| walk_at "rd1") => `(tactic| first
  | with_reducible refine rd_c ?_
  | ((with_reducible refine' rd_var ?rh ?_); (case rh => exact rfl))
  | with_reducible refine rd_op ?_
  | with_reducible refine rd_seq ?_
  | with_reducible refine rd_asg ?_
  | with_reducible refine rd_gname ?_
  | with_reducible refine rd_ifS ?_
  | with_reducible refine rd_test ?_
  | with_reducible refine rd_tB ?_
  | with_reducible refine rd_blP ?_
  | ((with_reducible refine' iteY ?rh ?_); (case rh => walk_at "bb"))
  | ((with_reducible refine' iteN ?rh ?_); (case rh => walk_at "bb"))
  | with_reducible refine rd_ret ?_
  | with_reducible refine rd_nx ?_
  | ((with_reducible refine' rd_eq ?rh ?_); (case rh => exact rfl))
  | ((with_reducible refine' rd_ne ?rh ?_); (case rh => exact rfl))
  | with_reducible refine rd_add ?_
  | with_reducible refine rd_sub ?_
  | with_reducible refine rd_i0 ?_
  | with_reducible refine rd_and ?_
  | with_reducible refine rd_or ?_
  | with_reducible refine rd_not ?_
  | with_reducible refine rd_andV ?_
  | with_reducible refine rd_orV ?_
  | with_reducible refine rd_notV ?_
  | with_reducible refine rd_ifE ?_
  | with_reducible refine rd_isN ?_
  | with_reducible refine rd_notN ?_
  | with_reducible refine rd_cons ?_
  | with_reducible refine rd_nil ?_
  | with_reducible refine rd_tup ?_
  | with_reducible refine rd_lst ?_
  | with_reducible refine rd_call ?_
  | with_reducible refine rd_cb ?_
  | with_reducible refine rd_fld ?_
  | with_reducible refine rd_drop ?_
  | with_reducible refine rd_gsub ?_
  | with_reducible refine rd_gcons ?_
  | with_reducible refine rd_gnil ?_
  | with_reducible refine rd_par ?_
  | with_reducible refine rd_two ?_
  | with_reducible refine rd_part ?_
  | with_reducible refine rd_nopart ?_
  | with_reducible refine rd_int ?_
  | with_reducible refine rd_sl ?_
  | with_reducible refine rd_bm ?_
  | with_reducible refine rd_bm0 ?_
  | with_reducible refine rd_dgetT ?_
  | with_reducible refine rd_din ?_
  | with_reducible refine rd_dnin ?_
  | with_reducible refine rd_un ?_
  | ((with_reducible refine' rd_ixL ?rh ?re ?_); (case rh => walk_at "hp"); (case re => walk_at "at"))
  | ((with_reducible refine' rd_ixT ?rh ?re ?_); (case rh => walk_at "sq"); (case re => walk_at "at"))
  | ((with_reducible refine' rd_lenT ?rh ?_); (case rh => walk_at "sq"))
  | ((with_reducible refine' rd_tyL ?rh ?_); (case rh => walk_at "hp"))
  | ((with_reducible refine' rd_len ?rh ?_); (case rh => walk_at "hp"))
  | with_reducible refine rd_retN ?_)
local macro_rules | `(tactic| walk_at "rd") => `(tactic| repeat walk_at "rd1")
section
variable [KW]
variable {P : Program} {w : World} {K : PySem.W.Frag} {mg : Str → Option Value} {base : Heap}
/-! ### _law_reading_row -/
theorem row_len (ns : List Nd) (n : Nd) : (rowF ns n).2.length ≤ ns.length + 1 := by
  unfold rowF
  split <;> simp
theorem deny_len (ns : List Nd) (r : Nat) : (denyF ns r).2.length ≤ ns.length + 2 := by
  unfold denyF
  have h1 := row_len ns .no
  have h2 := row_len (rowF ns .no).2 (.bin .imp r (rowF ns .no).1)
  omega
structure ReadP (vs : List V) (H : Hp) (Q : VK) : Prop where
  ex : ∃ (M : List Addr) (bk b0 b1 d : Addr) (ns : List Nd) (at_ : Nat) (n : Nd) (l : List Nat) (f : Nat → Nat) (wd : W3), vs = [.str wd.str, .ref bk, .int at_, .ref d] ∧ H bk = some (.lst [.ref b0, .ref b1]) ∧ bk ∉ M ∧ BkN M H b0 b1 ns ∧ d ≠ b0 ∧ d ≠ b1 ∧
    H d = some (.dK (newT l f)) ∧ (∀ p ∈ n.parts, p ∈ l) ∧ ns[at_]? = some n ∧ ns.length ≤ 800000 ∧
    ∀ H', BkN M H' b0 b1 (stepF wd ns at_ n f).2 → Adv [b0, b1] H H' → Q (.int ((stepF wd ns at_ n f).1 : Nat)) H'
def spReading : Sp := fun vs H Q _ => ReadP vs H Q
theorem new_get {H : Hp} {d : Addr} {l : List Nat} {f : Nat → Nat} {j : Nat} (hd : H d = some (.dK (newT l f))) (hj : j ∈ l) : DGet H d (.int (j : Nat)) (some (.int (f j : Nat))) := by
  have := DGet.k (k := (Sum.inl (j : Int) : Key)) hd
  rw [new_val, if_pos hj] at this
  exact this
theorem ok_law_reading_row (A : All K mg w) : FnOk P w K mg base CX0 3 A.law_reading_row.f A.law_reading_row.fd ["word", "book", "at", "new"] spReading := by
  refine A.law_reading_row.F.ok sc_law_reading_row (fun vs H Q E h => ?_) (fun cdv Ar outer s H vs Q E hr h => ?_)
  · obtain ⟨M, bk, b0, b1, d, ns, at_, n, l, f, wd, rfl, _⟩ := h.ex
    rfl
  · obtain ⟨M, bk, b0, b1, d, ns, at_, n, l, f, wd, rfl, hbk, kM, B, d0, d1, hd, hp, hn, hl, q⟩ := h.ex
    refine ⟨_, (pss_cons (ps_set (i := 4) sc_law_reading_row.nd rfl (Or.inl rfl) (pe_ix ix_list (pe_ix ix_list (pv 1) pe_int (fun _ _ => rfl)) (pv 2) (fun _ _ => rfl)))
  (pss_cons (ps_if (PW.pt (pw_or (pt_cmpR op_eq (pe_ix ix_tup (pv 4) pe_int (fun _ _ => rfl)) pe_str (nomark _)) (pw_or1 (PW.pt (pw_and (pt_cmpR op_eq (pe_ix ix_tup (pv 4) pe_int (fun _ _ => rfl)) pe_str (nomark _)) (pw_and1 (pt_cmpR op_eq (pv 0) pe_str (nomark _))))))))
    (pss_one (ps_ret (pv 2)))
    pss_nil)
  (pss_cons (ps_if (pt_cmpR op_eq (pe_ix ix_tup (pv 4) pe_int (fun _ _ => rfl)) pe_str (nomark _))
    (pss_one (ps_ret (pe_ifExp (pt_cmpR op_eq (pv 0) pe_str (nomark _)) (pe_call (ok_law_not A) (hr.mono (by omega)) rfl A.law_not.m A.law_not.F.kp A.law_not.b .nil pass0 (pa_cons (pv 1) (pa_cons (pe_call (ok_law_not A) (hr.mono (by omega)) rfl A.law_not.m A.law_not.F.kp A.law_not.b .nil pass0 (pa_cons (pv 1) (pa_cons (pv 2) pa_nil))) pa_nil))) (pe_call (ok_law_row A) (hr.mono (by omega)) rfl A.law_row.m A.law_row.F.kp A.law_row.b .nil pass0 (pa_cons (pv 1) (pa_cons (pe_tup (pa_cons pe_str (pa_cons (pv 2) pa_nil))) pa_nil))))))
    pss_nil)
  (pss_cons (ps_if (PW.pt (pw_and (pt_cmpR op_eq (pv 0) pe_str (nomark _)) (pw_and1 (pt_cmpR op_eq (pe_ix ix_tup (pv 4) pe_int (fun _ _ => rfl)) pe_str (nomark _)))))
    (pss_cons (ps_set (i := 5) sc_law_reading_row.nd rfl (Or.inl rfl) (pe_call (ok_law_not A) (hr.mono (by omega)) rfl A.law_not.m A.law_not.F.kp A.law_not.b .nil pass0 (pa_cons (pv 1) (pa_cons (pe_dget (hu_of hr) (pv 3) (pe_ix ix_tup (pv 4) pe_int (fun _ _ => rfl)) (fun _ _ => rfl)) pa_nil))))
  (pss_cons (ps_set (i := 6) sc_law_reading_row.nd rfl (Or.inl rfl) (pe_call (ok_law_not A) (hr.mono (by omega)) rfl A.law_not.m A.law_not.F.kp A.law_not.b .nil pass0 (pa_cons (pv 1) (pa_cons (pe_dget (hu_of hr) (pv 3) (pe_ix ix_tup (pv 4) pe_int (fun _ _ => rfl)) (fun _ _ => rfl)) pa_nil))))
  (pss_one (ps_ret (pe_call (ok_law_not A) (hr.mono (by omega)) rfl A.law_not.m A.law_not.F.kp A.law_not.b .nil pass0 (pa_cons (pv 1) (pa_cons (pe_call (ok_law_row A) (hr.mono (by omega)) rfl A.law_row.m A.law_row.F.kp A.law_row.b .nil pass0 (pa_cons (pv 1) (pa_cons (pe_tup (pa_cons pe_str (pa_cons (pv 5) (pa_cons (pv 6) pa_nil)))) pa_nil))) pa_nil)))))))
    pss_nil)
  (pss_cons (ps_set (i := 7) sc_law_reading_row.nd rfl (Or.inl rfl) (pe_call (ok_law_row A) (hr.mono (by omega)) rfl A.law_row.m A.law_row.F.kp A.law_row.b .nil pass0 (pa_cons (pv 1) (pa_cons (pe_call (ok_law_moved A) (hr.mono (by omega)) rfl A.law_moved.m A.law_moved.F.kp A.law_moved.b .nil pass0 (pa_cons (pv 4) (pa_cons (pv 3) pa_nil))) pa_nil))))
  (pss_cons (ps_if (PW.pt (pw_and (pt_cmpR op_eq (pv 0) pe_str (nomark _)) (pw_and1 (pt_cmpR op_eq (pe_ix ix_tup (pv 4) pe_int (fun _ _ => rfl)) pe_str (nomark _)))))
    (pss_one (ps_ret (pe_call (ok_law_row A) (hr.mono (by omega)) rfl A.law_row.m A.law_row.F.kp A.law_row.b .nil pass0 (pa_cons (pv 1) (pa_cons (pe_tup (pa_cons pe_str (pa_cons (pv 7) pa_nil))) pa_nil)))))
    pss_nil)
  (pss_cons (ps_if (PW.pt (pw_and (pt_cmpR op_eq (pv 0) pe_str (nomark _)) (pw_and1 (pt_cmpR op_eq (pe_ix ix_tup (pv 4) pe_int (fun _ _ => rfl)) pe_str (nomark _)))))
    (pss_one (ps_ret (pe_call (ok_law_row A) (hr.mono (by omega)) rfl A.law_row.m A.law_row.F.kp A.law_row.b .nil pass0 (pa_cons (pv 1) (pa_cons (pe_tup (pa_cons pe_str (pa_cons (pe_dget (hu_of hr) (pv 3) (pe_ix ix_tup (pv 4) pe_int (fun _ _ => rfl)) (fun _ _ => rfl)) (pa_cons (pv 7) pa_nil)))) pa_nil)))))
    pss_nil)
  (pss_one (ps_ret (pv 7)))))))))), ?_⟩
    obtain ⟨rs, r0, rd⟩ := B.rows
    obtain ⟨v, hv, isv⟩ := rd.get (i := at_) (d := n.data) (by rw [List.getElem?_map, hn]; rfl)
    obtain ⟨a, rfl, ha⟩ := nd_is isv
    have W := A.W
    have hal := B.al
    have kk : bk ∉ [b0, b1] := fun z => by
      rcases List.mem_cons.mp z with z | z
      · exact kM (by rw [z]; exact B.m0)
      · exact kM (by rw [List.mem_singleton.mp z]; exact B.m1)
    have dd : d ∉ [b0, b1] := by simp [d0, d1]
    have mM : ∀ b ∈ [b0, b1], b ∈ M := by simp [B.m0, B.m1]
    -- behind the moved node
    have go : ∀ {H1 p n' Q'}, Adv [] H H1 → Tp M H1 p (n'.keys.map kV) → (∀ H2, H2 bk = some (.lst [.ref b0, .ref b1]) → Tp M H2 a (n.keys.map kV) → BkN M H2 b0 b1 (rowF ns n').2 → Adv [b0, b1] H H2 → Q' (.int ((rowF ns n').1 : Nat)) H2) → RowP [.ref bk, .ref p] H1 Q' := fun {H1 p n' Q'} a1 hp1 k =>
      ⟨⟨M, bk, b0, b1, p, ns, n', rfl, a1.same _ _ hbk, kM, B.same a1, hp1, by omega, fun H2 B2 a2 => k H2 (a2 _ _ kk (a1.same _ _ hbk)) ((ha.adv (Adv.nil a1)).adv (a2.more mM)) B2 ((Adv.nil a1).trans a2)⟩⟩
    have h1 := deny_len ns at_
    cases n with
    | no =>
      walk_at "rd"
      have : stepF wd ns at_ .no f = (at_, ns) := by cases wd <;> rfl
      rw [this] at q
      exact q H B (Adv.refl _ _)
    | letter i =>
      cases wd with
      | dou =>
        walk_at "rd"
        exact q H B (Adv.refl _ _)
      | neg =>
        walk_at "rd"
        exact ⟨M, bk, b0, b1, ns, at_, rfl, hbk, kM, B, by omega, fun H1 B1 a1 => ⟨M, bk, b0, b1, _, _, rfl, a1 _ _ kk hbk, kM, B1, by omega, fun H2 B2 a2 => q H2 B2 (a1.trans a2)⟩⟩
      | box =>
        walk_at "rd"
        refine ⟨by show 2 ≤ sizeLine; decide, fun p np => ?_⟩
        walk_at "rd"
        exact row_callN (.box at_) hbk kM B np (by omega) fun H1 hbk1 B1 a1 => q H1 B1 a1
    | bin o j k =>
      have hj := new_get hd (hp j (by simp [Nd.parts]))
      have hk := new_get hd (hp k (by simp [Nd.parts]))
      have h2 := deny_len ns (f j)
      have h3 := deny_len (denyF ns (f j)).2 (f k)
      have h4 := row_len (denyF (denyF ns (f j)).2 (f k)).2 (.bin .and (denyF ns (f j)).1 (denyF (denyF ns (f j)).2 (f k)).1)
      -- the moved node is all
      have plain : wd = .dou ∨ (wd = .box ∧ o ≠ .imp) ∨ (wd = .neg ∧ o ≠ .or) → stepF wd ns at_ (.bin o j k) f = rowF ns (.bin o (f j) (f k)) := fun z => by
        rcases z with rfl | ⟨rfl, z⟩ | ⟨rfl, z⟩ <;> cases o <;> first | rfl | exact absurd rfl z
      have h5 := row_len ns (.bin o (f j) (f k))
      cases wd with
      | neg =>
        by_cases ho : o = .or
        · subst ho
          walk_at "rd"
          refine rd_dget hj ?_
          walk_at "rd"
          refine ⟨M, bk, b0, b1, ns, f j, rfl, hbk, kM, B, by omega, fun H1 B1 a1 => ?_⟩
          have ha1 := ha.adv (a1.more mM)
          have hk1 := new_get (a1 _ _ dd hd) (hp k (by simp [Nd.parts]))
          walk_at "rd"
          refine rd_dget hk1 ?_
          walk_at "rd"
          refine ⟨M, bk, b0, b1, _, f k, rfl, a1 _ _ kk hbk, kM, B1, by omega, fun H2 B2 a2 => ?_⟩
          walk_at "rd"
          refine ⟨by show 3 ≤ sizeLine; decide, fun p np => ?_⟩
          walk_at "rd"
          refine row_callN (.bin .and (denyF ns (f j)).1 (denyF (denyF ns (f j)).2 (f k)).1) (a2 _ _ kk (a1 _ _ kk hbk)) kM B2 np (by omega) fun H3 hbk3 B3 a3 => ?_
          walk_at "rd"
          exact ⟨M, bk, b0, b1, _, _, rfl, hbk3, kM, B3, by omega, fun H4 B4 a4 => q H4 B4 (((a1.trans a2).trans a3).trans a4)⟩
        · rw [plain (.inr (.inr ⟨rfl, ho⟩))] at q
          cases o with
          | or => exact absurd rfl ho
          | and =>
            walk_at "rd"
            refine ⟨M, a, d, .bin .and j k, l, f, rfl, ha, hal, hd, hp, fun p H1 hp1 a1 => ?_⟩
            walk_at "rd"
            refine go (n' := .bin .and (f j) (f k)) a1 hp1 fun H2 hbk2 ha2 B2 a2 => ?_
            walk_at "rd"
            exact q H2 B2 a2
          | imp =>
            walk_at "rd"
            refine ⟨M, a, d, .bin .imp j k, l, f, rfl, ha, hal, hd, hp, fun p H1 hp1 a1 => ?_⟩
            walk_at "rd"
            refine go (n' := .bin .imp (f j) (f k)) a1 hp1 fun H2 hbk2 ha2 B2 a2 => ?_
            walk_at "rd"
            exact q H2 B2 a2
      | box =>
        cases o with
        | imp =>
          walk_at "rd"
          refine ⟨M, a, d, .bin .imp j k, l, f, rfl, ha, hal, hd, hp, fun p H1 hp1 a1 => ?_⟩
          walk_at "rd"
          refine go (n' := .bin .imp (f j) (f k)) a1 hp1 fun H2 hbk2 ha2 B2 a2 => ?_
          walk_at "rd"
          refine ⟨by show 2 ≤ sizeLine; decide, fun p2 np2 => ?_⟩
          walk_at "rd"
          exact row_callN (.box (rowF ns (.bin .imp (f j) (f k))).1) hbk2 kM B2 np2 (by omega) fun H3 hbk3 B3 a3 => q H3 B3 (a2.trans a3)
        | and =>
          walk_at "rd"
          refine ⟨M, a, d, .bin .and j k, l, f, rfl, ha, hal, hd, hp, fun p H1 hp1 a1 => ?_⟩
          walk_at "rd"
          refine go (n' := .bin .and (f j) (f k)) a1 hp1 fun H2 hbk2 ha2 B2 a2 => ?_
          walk_at "rd"
          exact q H2 B2 a2
        | or =>
          walk_at "rd"
          refine ⟨M, a, d, .bin .or j k, l, f, rfl, ha, hal, hd, hp, fun p H1 hp1 a1 => ?_⟩
          walk_at "rd"
          refine go (n' := .bin .or (f j) (f k)) a1 hp1 fun H2 hbk2 ha2 B2 a2 => ?_
          walk_at "rd"
          exact q H2 B2 a2
      | dou =>
        rw [plain (.inl rfl)] at q
        cases o <;>
        · walk_at "rd"
          refine ⟨M, a, d, .bin _ j k, l, f, rfl, ha, hal, hd, hp, fun p H1 hp1 a1 => ?_⟩
          walk_at "rd"
          refine go (n' := .bin _ (f j) (f k)) a1 hp1 fun H2 hbk2 ha2 B2 a2 => ?_
          walk_at "rd"
          exact q H2 B2 a2
    | box j =>
      have hj := new_get hd (hp j (by simp [Nd.parts]))
      have h5 := row_len ns (.box (f j))
      cases wd with
      | dou =>
        walk_at "rd"
        refine ⟨M, a, d, .box j, l, f, rfl, ha, hal, hd, hp, fun p H1 hp1 a1 => ?_⟩
        walk_at "rd"
        refine go (n' := .box (f j)) a1 hp1 fun H2 hbk2 ha2 B2 a2 => ?_
        have hj2 := new_get (a2 _ _ dd hd) (hp j (by simp [Nd.parts]))
        walk_at "rd"
        refine rd_dget hj2 ?_
        walk_at "rd"
        refine ⟨by show 3 ≤ sizeLine; decide, fun p2 np2 => ?_⟩
        walk_at "rd"
        exact row_callN (.bin .and (f j) (rowF ns (.box (f j))).1) hbk2 kM B2 np2 (by omega) fun H3 hbk3 B3 a3 => q H3 B3 (a2.trans a3)
      | neg =>
        walk_at "rd"
        refine ⟨M, a, d, .box j, l, f, rfl, ha, hal, hd, hp, fun p H1 hp1 a1 => ?_⟩
        walk_at "rd"
        refine go (n' := .box (f j)) a1 hp1 fun H2 hbk2 ha2 B2 a2 => ?_
        walk_at "rd"
        exact q H2 B2 a2
      | box =>
        walk_at "rd"
        refine ⟨M, a, d, .box j, l, f, rfl, ha, hal, hd, hp, fun p H1 hp1 a1 => ?_⟩
        walk_at "rd"
        refine go (n' := .box (f j)) a1 hp1 fun H2 hbk2 ha2 B2 a2 => ?_
        walk_at "rd"
        exact q H2 B2 a2
end
end K59

set_option Elab.async false
set_option linter.all false
set_option maxRecDepth 100000
set_option maxHeartbeats 400000
namespace K59
open PySem PySem.Spec PyProof.Rows L2 LL
section
variable [KW]
variable {P : Program} {w : World} {K : PySem.W.Frag} {mg : Str → Option Value} {base : Heap}
/-! ### _law_read -/
structure ReadAllP (vs : List V) (H : Hp) (Q : VK) : Prop where
  ex : ∃ (M : List Addr) (bk b0 b1 rw_ : Addr) (ns : List Nd) (rows : List Nat) (boxed : Bool) (wd : W3), vs = [.str wd.str, .ref bk, .ref rw_] ∧ H bk = some (.lst [.ref b0, .ref b1]) ∧ bk ∉ M ∧ BkN M H b0 b1 ns ∧ okSheet boxed ns ∧ ns.length ≤ 10000 ∧
    H rw_ = some (.lst (nV rows)) ∧ (∀ r ∈ rows, r < ns.length) ∧ rows.length ≤ 10000 ∧
    ∀ d H', H d = none → H' d = some (.dK (newT (belowF ns rows) (readF wd ns (belowF ns rows) ns (fun _ => 0)).2)) → BkN M H' b0 b1 (readF wd ns (belowF ns rows) ns (fun _ => 0)).1 → Adv [b0, b1] H H' → Q (.ref d) H'
def spReadAll : Sp := fun vs H Q _ => ReadAllP vs H Q
theorem ok_law_read (A : All K mg w) : FnOk P w K mg base CX0 4 A.law_read.f A.law_read.fd ["word", "book", "rows"] spReadAll := by
  refine A.law_read.F.ok sc_law_read (fun vs H Q E h => ?_) (fun cdv Ar outer s H vs Q E hr h => ?_)
  · obtain ⟨M, bk, b0, b1, rw_, ns, rows, boxed, wd, rfl, _⟩ := h.ex
    rfl
  · obtain ⟨M, bk, b0, b1, rw_, ns, rows, boxed, wd, rfl, hbk, kM, B, ok, hl, hrw, hrows, hl2, q⟩ := h.ex
    refine ⟨_, (pss_cons (ps_set (i := 3) sc_law_read.nd rfl (Or.inl rfl) pe_dnewK)
  (pss_cons (ps_for PassesOwn.never rfl (pi_list (pe_call (ok_law_below A) (hr.mono (by omega)) rfl A.law_below.m A.law_below.F.kp A.law_below.b .nil pass0 (pa_cons (pe_ix ix_list (pv 1) pe_int (fun _ _ => rfl)) (pa_cons (pv 2) pa_nil)))) (pg_name (i := 4) sc_law_read.nd rfl (Or.inl rfl))
    (pss_one (ps_dput (hu_of hr) (pv 3) (pv 4) (pe_call (ok_law_reading_row A) (hr.mono (by omega)) rfl A.law_reading_row.m A.law_reading_row.F.kp A.law_reading_row.b .nil pass0 (pa_cons (pv 0) (pa_cons (pv 1) (pa_cons (pv 4) (pa_cons (pv 3) pa_nil))))) rfl)))
  (pss_one (ps_ret (pv 3))))), ?_⟩
    intro d nd
    have ad : Adv [] H (upd H d (.dK [])) := Adv.new nd
    have B1 := B.same ad
    obtain ⟨rs, r0, rd⟩ := B1.rows
    refine ⟨_, rfl, bk, _, 0, _, rfl, rfl, SqL.of (ad.same _ _ hbk), atI_nat (j := 0) rfl, _, rfl, b0, rw_, ns, rs, rows, boxed, rfl, r0, rd.less (by simp), ad.same _ _ hrw, hrows, ok, hl, hl2, fun L H2 nL hL a2 => ?_⟩
    refine ⟨L, rfl, ⟨_, SqL.of hL⟩, ?_⟩
    have hd2 := a2.same _ _ (show (upd H d (.dK [])) d = some (.dK []) from upd_same)
    have nLd : L ≠ d := fun z => by rw [z, upd_same] at nL; cases nL
    have B2 := B1.same a2
    have aH2 := ad.trans a2
    have nL0 : H L = none := ad.free (by simp) nL
    have alM := B.al
    have d0 : d ≠ b0 := fun z => B.al b0 B.m0 (by rw [← z]; exact nd)
    have d1 : d ≠ b1 := fun z => B.al b1 B.m1 (by rw [← z]; exact nd)
    have L0 : L ≠ b0 := fun z => B.al b0 B.m0 (by rw [← z]; exact nL0)
    have L1 : L ≠ b1 := fun z => B.al b1 B.m1 (by rw [← z]; exact nL0)
    have k01 : bk ∉ [b0, b1] := fun z => by
      rcases List.mem_cons.mp z with z | z
      · exact kM (by rw [z]; exact B.m0)
      · exact kM (by rw [List.mem_singleton.mp z]; exact B.m1)
    have kd : bk ≠ d := fun z => by rw [z, nd] at hbk; cases hbk
    have dM : d ∉ M := fun z => B.al d z nd
    refine for_list (a := L) (xs := nV (belowF ns rows)) (fun i σ' H' => ∃ x4, σ' = [some (.str wd.str), some (.ref bk), some (.ref rw_), some (.ref d), x4] ∧ H' L = some (.lst (nV (belowF ns rows))) ∧ H' bk = some (.lst [.ref b0, .ref b1]) ∧
        H' d = some (.dK (newT ((belowF ns rows).take i) (readF wd ns ((belowF ns rows).take i) ns (fun _ => 0)).2)) ∧ BkN (d :: M) H' b0 b1 (readF wd ns ((belowF ns rows).take i) ns (fun _ => 0)).1 ∧ Adv [b0, b1] H H')
      ⟨_, rfl, hL, aH2.same _ _ hbk, hd2, (B.fresh nd).same a2, Adv.nil aH2⟩ ?_ ?_ ?_
    · rintro i σ' H' hi ⟨x4, rfl, hL', _⟩
      exact SqL.of hL'
    · rintro i x σ' H' hx ⟨x4, rfl, hL', hbk', hd', B', a'⟩
      obtain ⟨r, hr1, rfl⟩ : ∃ r, (belowF ns rows)[i]? = some r ∧ V.int (r : Nat) = x := by
        unfold nV at hx
        rw [List.getElem?_map, Option.map_eq_some_iff] at hx
        exact hx
      have hrm := List.mem_of_getElem? hr1
      have hrn := (below_mem.mp hrm).1
      have hnr : ns[r]? = some ns[r] := List.getElem?_eq_getElem hrn
      have hpre := readF_pre wd ns ((belowF ns rows).take i) ns (fun _ => 0)
      have hlen := readF_len wd ns ((belowF ns rows).take i) ns (fun _ => 0)
      have hbl : (belowF ns rows).length ≤ ns.length := by
        have := List.length_filter_le (marked ns rows) (List.range ns.length)
        rw [List.length_range] at this
        exact this
      have htl : ((belowF ns rows).take i).length ≤ ns.length := by rw [List.length_take]; omega
      have hat : (readF wd ns ((belowF ns rows).take i) ns (fun _ => 0)).1[r]? = some ns[r] := by
        obtain ⟨t, ht⟩ := hpre
        rw [← ht, List.getElem?_append_left hrn, hnr]
      have hpt : ∀ p ∈ (ns[r]).parts, p ∈ (belowF ns rows).take i := fun p hp => by
        obtain ⟨h1, h2⟩ := below_parts ok hrm hnr p hp
        exact below_take hr1 h1 h2
      refine ⟨_, rfl, _, rfl, _, rfl, _, rfl, d :: M, bk, b0, b1, d, _, r, ns[r], _, _, wd, rfl, hbk', by simp [kd, kM], B', d0, d1, hd', hpt, hat, by omega, fun H3 B3 a3 => ?_⟩
      have hd3 := a3 _ _ (by simp [d0, d1]) hd'
      refine ⟨_, rfl, _, rfl, d, _, rfl, DPut.k (k := (Sum.inl (r : Int) : Key)) hd3 (by unfold newT; rw [List.length_map, sizeLine_eq]; omega), ?_⟩
      rw [new_put (below_notin hr1)]
      have e1 : (belowF ns rows).take (i + 1) = (belowF ns rows).take i ++ [r] := by rw [List.take_succ, hr1]; rfl
      rw [e1, readF_snoc, hnr]
      refine ⟨_, rfl, by rw [upd_ne nLd]; exact a3 _ _ (by simp [L0, L1]) hL', by rw [upd_ne kd]; exact a3 _ _ k01 hbk', upd_same, ?_, (a'.trans a3).mut nd⟩
      exact B3.adv (N := [d]) (Adv.set (by simp)) (by simpa using d0.symm) (by simpa using d1.symm) (by simp) (fun b hb => by rw [List.mem_singleton.mp hb, upd_same]; simp)
    · rintro σ' H' ⟨x4, rfl, hL', hbk', hd', B', a'⟩
      have et : (belowF ns rows).take (nV (belowF ns rows)).length = belowF ns rows := by unfold nV; rw [List.length_map, List.take_length]
      rw [et] at hd' B'
      exact ⟨_, rfl, q d H' nd hd' (B'.less (by simp +contextual) B.m0 B.m1) a'⟩
end
end K59

set_option Elab.async false
set_option linter.all false
set_option maxRecDepth 100000
set_option maxHeartbeats 400000
namespace K59
open PySem PySem.Spec PyProof.Rows L2 LL
local macro_rules | `(tactic| walk_at "ne") => `(tactic| first | assumption | (apply Ne.symm; assumption) | exact ne_of_none (by walk_at "hp") (by assumption) | exact (ne_of_none (by walk_at "hp") (by assumption)).symm)
local macro_rules | `(tactic| walk_at "nm") => `(tactic| first | assumption | exact notin0 | exact notin1 (by walk_at "ne") | exact notin2 (by walk_at "ne") (by walk_at "ne"))
local macro_rules | `(tactic| walk_at "hp") => `(tactic| first | assumption | exact upd_same | (refine Eq.trans (upd_ne ?ne) ?hh; (case hh => walk_at "hp"); (case ne => walk_at "ne")) | (refine Adv.get' (by assumption) ?hh ?nn; (case hh => walk_at "hp"); (case nn => walk_at "nm")))
local macro_rules | `(tactic| walk_at "tp") => `(tactic| first | assumption | exact Tp.adv (by walk_at "tp") (by assumption) | exact Tp.adv (by walk_at "tp") (Adv.nil (by assumption)))
local macro_rules | `(tactic| walk_at "sq") => `(tactic| first | assumption | exact Tp.sq (by assumption) (by walk_at "tp") | exact SqT.of (by walk_at "hp"))
local macro_rules | `(tactic| walk_at "at") => `(tactic| first | exact atI_nat (j := 0) rfl | exact atI_nat (j := 1) rfl | exact atI_nat (j := 2) rfl | exact atI_nat (j := 3) rfl | exact atI_nat (by assumption) | (rw [Int.zero_add]; exact atI_nat (by assumption)))
local macro_rules | `(tactic| walk_at "bb") => `(tactic| first | assumption | decide | exact rfl)
local macro_rules | `(tactic| walk_at "rd1") => `(tactic| first
  | with_reducible refine rd_c ?_
  | ((with_reducible refine' rd_var ?rh ?_); (case rh => exact rfl))
  | with_reducible refine rd_op ?_
  | with_reducible refine rd_seq ?_
  | with_reducible refine rd_asg ?_
  | with_reducible refine rd_gname ?_
  | with_reducible refine rd_ifS ?_
  | with_reducible refine rd_test ?_
  | with_reducible refine rd_tB ?_
  | with_reducible refine rd_blP ?_
  | ((with_reducible refine' iteY ?rh ?_); (case rh => walk_at "bb"))
  | ((with_reducible refine' iteN ?rh ?_); (case rh => walk_at "bb"))
  | with_reducible refine rd_ret ?_
  | with_reducible refine rd_nx ?_
  | ((with_reducible refine' rd_eq ?rh ?_); (case rh => exact rfl))
  | ((with_reducible refine' rd_ne ?rh ?_); (case rh => exact rfl))
  | with_reducible refine rd_add ?_
  | with_reducible refine rd_sub ?_
  | with_reducible refine rd_i0 ?_
  | with_reducible refine rd_and ?_
  | with_reducible refine rd_or ?_
  | with_reducible refine rd_not ?_
  | with_reducible refine rd_andV ?_
  | with_reducible refine rd_orV ?_
  | with_reducible refine rd_notV ?_
  | with_reducible refine rd_ifE ?_
  | with_reducible refine rd_isN ?_
  | with_reducible refine rd_notN ?_
  | with_reducible refine rd_cons ?_
  | with_reducible refine rd_nil ?_
  | with_reducible refine rd_tup ?_
  | with_reducible refine rd_lst ?_
  | with_reducible refine rd_call ?_
  | with_reducible refine rd_cb ?_
  | with_reducible refine rd_meth ?_
  | with_reducible refine rd_fld ?_
  | with_reducible refine rd_drop ?_
  | with_reducible refine rd_gsub ?_
  | with_reducible refine rd_gcons ?_
  | with_reducible refine rd_gnil ?_
  | with_reducible refine rd_par ?_
  | with_reducible refine rd_two ?_
  | with_reducible refine rd_part ?_
  | with_reducible refine rd_nopart ?_
  | with_reducible refine rd_int ?_
  | with_reducible refine rd_sl ?_
  | with_reducible refine rd_bm ?_
  | with_reducible refine rd_bm0 ?_
  | with_reducible refine rd_dgetT ?_
  | with_reducible refine rd_din ?_
  | with_reducible refine rd_dnin ?_
  | with_reducible refine rd_un ?_
  | ((with_reducible refine' rd_ixL ?rh ?re ?_); (case rh => walk_at "hp"); (case re => walk_at "at"))
  | ((with_reducible refine' rd_ixT ?rh ?re ?_); (case rh => walk_at "sq"); (case re => walk_at "at"))
  | ((with_reducible refine' rd_lenT ?rh ?_); (case rh => walk_at "sq"))
  | ((with_reducible refine' rd_tyL ?rh ?_); (case rh => walk_at "hp"))
  | ((with_reducible refine' rd_len ?rh ?_); (case rh => walk_at "hp"))
  | with_reducible refine rd_retN ?_)
local macro_rules | `(tactic| walk_at "rd") => `(tactic| repeat walk_at "rd1")
abbrev s_Growing_init : Stmt := inClass (top 33) 0
theorem sc_Growing_init : FnScope ["self", "sheet"] ["self", "sheet"] (defScope s_Growing_init) := ⟨rfl, rfl, rfl, by decide +kernel, rfl, by decide +kernel, by decide +kernel⟩
abbrev s_Growing_node_row : Stmt := inClass (top 33) 1
theorem sc_Growing_node_row : FnScope ["self", "node"] ["self", "node"] (defScope s_Growing_node_row) := ⟨rfl, rfl, rfl, by decide +kernel, rfl, by decide +kernel, by decide +kernel⟩
abbrev s_Growing_deny : Stmt := inClass (top 33) 2
theorem sc_Growing_deny : FnScope ["self", "row"] ["self", "row"] (defScope s_Growing_deny) := ⟨rfl, rfl, rfl, by decide +kernel, rfl, by decide +kernel, by decide +kernel⟩
/-- what the top has written of the class -/
structure Grw (K : PySem.W.Frag) (mg : Str → Option Value) where
  C : Addr
  fI : Addr
  fN : Addr
  fD : Addr
  dI : FuncData
  dN : FuncData
  dD : FuncData
  m : mg "Growing" = some (.ref C)
  cl : Cls K C
  nS : NoAttr K C "sheet"
  nT : NoAttr K C "table"
  mkc : Mk K C fI
  mN : Meth K C "node_row" fN
  mD : Meth K C "deny" fD
  FI : Fun K "__init__" "Growing.__init__" s_Growing_init fI dI
  FN : Fun K "node_row" "Growing.node_row" s_Growing_node_row fN dN
  FD : Fun K "deny" "Growing.deny" s_Growing_deny fD dD
  bI : Binds K dI ["self", "sheet"] []
  bN : Binds K dN ["self", "node"] []
  bD : Binds K dD ["self", "row"] []
def gfl (b0 b1 : Addr) : List (Str × V) := [("sheet", .ref b0), ("table", .ref b1)]
theorem gfl_put (b0 b1 : Addr) : putF "table" (.ref b1) (putF "sheet" (.ref b0) []) = gfl b0 b1 := by
  show (if ("sheet" : Str) = "table" then _ else (("sheet" : Str), V.ref b0) :: putF "table" (.ref b1) []) = gfl b0 b1
  rw [if_neg (by decide +kernel)]
  rfl
theorem lk_hit {k : Str} {v : V} {r : List (Str × V)} : List.lookup k ((k, v) :: r) = some v := by simp [List.lookup]
theorem lk_miss {k k' : Str} {v : V} {r : List (Str × V)} (h : (k == k') = false) : List.lookup k ((k', v) :: r) = List.lookup k r := by simp [List.lookup, h]
theorem gfl_s (b0 b1 : Addr) : (gfl b0 b1).lookup ("sheet" : Str) = some (.ref b0) := lk_hit
theorem gfl_t (b0 b1 : Addr) : (gfl b0 b1).lookup ("table" : Str) = some (.ref b1) := (lk_miss (by decide +kernel)).trans lk_hit
theorem gfl_no (b0 b1 : Addr) {m : Str} (h1 : (m == "sheet") = false) (h2 : (m == "table") = false) : (gfl b0 b1).lookup m = none := (lk_miss h1).trans ((lk_miss h2).trans rfl)
section
variable [KW]
variable {P : Program} {w : World} {K : PySem.W.Frag} {mg : Str → Option Value} {base : Heap}
/-! ### __init__ -/
structure GInitP (C : Addr) (vs : List V) (H : Hp) (Q : VK) : Prop where
  ex : ∃ (M : List Addr) (g dx sh : Addr) (rs : List V) (ns : List Nd), vs = [.ref g, .ref sh] ∧ H g = some (.ins C dx []) ∧ H sh = some (.lst rs) ∧ IsDs (g :: M) H (ns.map Nd.data) rs ∧ (∀ b ∈ M, H b ≠ none) ∧ ns.Nodup ∧ ns.length ≤ 10000 ∧
    ∀ b0 b1 H', H b0 = none → H b1 = none → BkN (b0 :: b1 :: M) H' b0 b1 ns → H' g = some (.ins C dx (gfl b0 b1)) → Adv [g] H H' → Q .non H'
def spGInit (C : Addr) : Sp := fun vs H Q _ => GInitP C vs H Q
theorem ok_g_init (A : All K mg w) (G : Grw K mg) : FnOk P w K mg base CX0 2 G.fI G.dI ["self", "sheet"] (spGInit G.C) := by
  refine G.FI.ok sc_Growing_init (fun vs H Q E h => ?_) (fun cdv Ar outer s H vs Q E hr h => ?_)
  · obtain ⟨M, g, dx, sh, rs, ns, rfl, _⟩ := h.ex
    rfl
  · obtain ⟨M, g, dx, sh, rs, ns, rfl, hg, hsh, rd, hal, hnd, hl, q⟩ := h.ex
    refine ⟨_, (pss_cons (ps_fld (pv 0) (pe_callTy call_list_of (by rfl) A.T.list (by decide +kernel) (pa_cons (pv 1) pa_nil)) rfl)
  (pss_one (ps_fld (pv 0) (pe_call (ok_places A) (hr.mono (by omega)) rfl A.places.m A.places.F.kp A.places.b .nil pass0 (pa_cons (pv 1) pa_nil)) rfl))), ?_⟩
    refine ⟨_, rfl, sh, rs, rfl, .inl (SqL.of hsh), fun l nl => ?_⟩
    have gl : g ≠ l := ne_of_none hg nl
    have shg : sh ≠ g := ne_of hsh hg (by intro z; cases z)
    have shl : sh ≠ l := ne_of_none hsh nl
    refine ⟨_, rfl, g, G.C, dx, [], rfl, by rw [upd_ne gl]; exact hg, G.cl, G.nS, by decide, ?_⟩
    have a1 : Adv [g] H (upd (upd H l (.lst rs)) g (.ins G.C dx (putF "sheet" (.ref l) []))) := (Adv.new nl).trans (Adv.set (by simp))
    refine ⟨_, rfl, ⟨⟨g :: M, sh, rs, ns, rfl, by rw [upd_ne shg, upd_ne shl]; exact hsh, rd.adv (a1.more (by simp)), hnd, hl, fun T H2 nT tab a2 => ?_⟩⟩⟩
    have h1g : (upd (upd H l (.lst rs)) g (.ins G.C dx (putF "sheet" (.ref l) []))) g = some (.ins G.C dx (putF "sheet" (.ref l) [])) := upd_same
    have h1l : (upd (upd H l (.lst rs)) g (.ins G.C dx (putF "sheet" (.ref l) []))) l = some (.lst rs) := by rw [upd_ne gl.symm, upd_same]
    have gT : g ≠ T := ne_of_none h1g nT
    have lT : l ≠ T := ne_of_none h1l nT
    have nT0 : H T = none := by rw [upd_ne gT.symm, upd_ne lT.symm] at nT; exact nT
    refine ⟨_, rfl, g, G.C, dx, _, rfl, a2.same _ _ h1g, G.cl, G.nT, by show 1 < 1000; decide, ?_⟩
    rw [gfl_put]
    have a3 : Adv [g] H2 (upd H2 g (.ins G.C dx (gfl l T))) := Adv.set (by simp)
    have a03 : Adv [g] H (upd H2 g (.ins G.C dx (gfl l T))) := (a1.trans (Adv.nil a2)).trans a3
    have h3l : (upd H2 g (.ins G.C dx (gfl l T))) l = some (.lst rs) := by rw [upd_ne gl.symm]; exact a2.same _ _ h1l
    refine q l T _ nl nT0 ⟨⟨rs, h3l, ?_⟩, ?_, by simp, by simp, lT, ?_⟩ upd_same a03
    · have r2 : IsDs (l :: T :: g :: M) H (ns.map Nd.data) rs := (rd.fresh nT0).fresh nl
      exact (r2.adv (a03.more (by simp))).less (by simp; exact fun b h => .inr (.inr (.inr h)))
    · have t2 : Tab (T :: g :: M) (upd H2 g (.ins G.C dx (gfl l T))) T (tabG 0 ns) := tab.adv a3 (by simpa using gT.symm) (by simp)
      obtain ⟨kas, k1, k2, k3⟩ := t2.ex
      refine ⟨⟨kas, k1, k2, fun p hp => ?_⟩⟩
      have t1 := k3 p hp
      -- the list l is no tuple
      rcases t1 with ⟨na, ha⟩ | t1
      · refine .inl ⟨fun z => ?_, ha⟩
        rcases List.mem_cons.mp z with z | z
        · rw [z, h3l] at ha; cases ha
        · rcases List.mem_cons.mp z with z | z
          · exact na (by simp [z])
          · exact na (by simp [z])
      · exact .inr t1
    · intro b hb
      rcases List.mem_cons.mp hb with z | hb
      · rw [z, h3l]; simp
      · rcases List.mem_cons.mp hb with z | hb
        · rw [z]; exact (tab.adv a3 (by simpa using gT.symm) (by simp)).here
        · by_cases z : b = g
          · rw [z, upd_same]; simp
          · cases e : H b with
            | none => exact absurd e (hal b hb)
            | some o => rw [a03 _ _ (by simpa using z) e]; simp
/-! ### node_row, deny -/
structure NodeP (C : Addr) (vs : List V) (H : Hp) (Q : VK) : Prop where
  ex : ∃ (M : List Addr) (g dx b0 b1 nd : Addr) (ns : List Nd) (n : Nd), vs = [.ref g, .ref nd] ∧ H g = some (.ins C dx (gfl b0 b1)) ∧ g ∉ M ∧ BkN M H b0 b1 ns ∧ Tp M H nd (n.keys.map kV) ∧ ns.length ≤ 1000000 ∧
    ∀ H', BkN M H' b0 b1 (rowF ns n).2 → Adv [b0, b1] H H' → H' g = some (.ins C dx (gfl b0 b1)) → Q (.int ((rowF ns n).1 : Nat)) H'
def spNodeRow (C : Addr) : Sp := fun vs H Q _ => NodeP C vs H Q
theorem notin_bk {M : List Addr} {H : Hp} {g b0 b1 : Addr} {ns : List Nd} (B : BkN M H b0 b1 ns) (h : g ∉ M) : g ∉ [b0, b1] := fun z => by
  rcases List.mem_cons.mp z with z | z
  · exact h (by rw [z]; exact B.m0)
  · exact h (by rw [List.mem_singleton.mp z]; exact B.m1)
theorem ok_node_row (A : All K mg w) (G : Grw K mg) : FnOk P w K mg base CX0 2 G.fN G.dN ["self", "node"] (spNodeRow G.C) := by
  refine G.FN.ok sc_Growing_node_row (fun vs H Q E h => ?_) (fun cdv Ar outer s H vs Q E hr h => ?_)
  · obtain ⟨M, g, dx, b0, b1, nd, ns, n, rfl, _⟩ := h.ex
    rfl
  · obtain ⟨M, g, dx, b0, b1, nd, ns, n, rfl, hg, gM, B, hnd, hl, q⟩ := h.ex
    refine ⟨_, (pss_one (ps_ret (pe_call (ok_row_for A) (hr.mono (by omega)) rfl A.row_for.m A.row_for.F.kp A.row_for.b .nil pass0 (pa_cons (pe_fld (pv 0) rfl) (pa_cons (pe_fld (pv 0) rfl) (pa_cons (pv 1) pa_nil)))))), ?_⟩
    walk_at "rd"
    refine rd_fldA hg G.cl G.nS (gfl_s _ _) ?_
    walk_at "rd"
    refine rd_fldA hg G.cl G.nT (gfl_t _ _) ?_
    walk_at "rd"
    exact ⟨⟨M, b0, b1, nd, ns, n, rfl, B, hnd, hl, fun H' B' a => q H' B' a (a _ _ (notin_bk B gM) hg)⟩⟩
structure DenyP (C : Addr) (vs : List V) (H : Hp) (Q : VK) : Prop where
  ex : ∃ (M : List Addr) (g dx b0 b1 : Addr) (ns : List Nd) (r : Nat), vs = [.ref g, .int r] ∧ H g = some (.ins C dx (gfl b0 b1)) ∧ g ∉ M ∧ BkN M H b0 b1 ns ∧ ns.length ≤ 900000 ∧
    ∀ H', BkN M H' b0 b1 (denyF ns r).2 → Adv [b0, b1] H H' → H' g = some (.ins C dx (gfl b0 b1)) → Q (.int ((denyF ns r).1 : Nat)) H'
def spDeny (C : Addr) : Sp := fun vs H Q _ => DenyP C vs H Q
theorem ok_deny (A : All K mg w) (G : Grw K mg) : FnOk P w K mg base CX0 3 G.fD G.dD ["self", "row"] (spDeny G.C) := by
  refine G.FD.ok sc_Growing_deny (fun vs H Q E h => ?_) (fun cdv Ar outer s H vs Q E hr h => ?_)
  · obtain ⟨M, g, dx, b0, b1, ns, r, rfl, _⟩ := h.ex
    rfl
  · obtain ⟨M, g, dx, b0, b1, ns, r, rfl, hg, gM, B, hl, q⟩ := h.ex
    obtain ⟨aN, mN, tN⟩ := A.C.no
    refine ⟨_, (pss_one (ps_ret (pe_meth (pv 0) G.cl G.mN (ok_node_row A G) (hr.mono (by omega)) G.bN .nil pass0 (pa_cons (pe_tup (pa_cons pe_str (pa_cons (pv 1) (pa_cons (pe_meth (pv 0) G.cl G.mN (ok_node_row A G) (hr.mono (by omega)) G.bN .nil pass0 (pa_cons (pe_glob (v := .ref aN) rfl mN rfl) pa_nil)) pa_nil)))) pa_nil)))), ?_⟩
    have h1 := row_len ns .no
    walk_at "rd"
    refine rd_methA hg (gfl_no _ _ (by decide +kernel) (by decide +kernel)) ?_
    walk_at "rd"
    refine rd_methA hg (gfl_no _ _ (by decide +kernel) (by decide +kernel)) ?_
    walk_at "rd"
    refine ⟨⟨M, g, dx, b0, b1, aN, ns, .no, rfl, hg, gM, B, .inr tN, by omega, fun H1 B1 a1 hg1 => ?_⟩⟩
    walk_at "rd"
    refine ⟨by show 3 ≤ sizeLine; decide, fun p np => ?_⟩
    walk_at "rd"
    have ap : Adv [] H1 (upd H1 p (.tup [.str "if", .int r, .int ((rowF ns .no).1 : Nat)])) := Adv.new np
    exact ⟨⟨M, g, dx, b0, b1, p, _, .bin .imp r (rowF ns .no).1, rfl, ap.same _ _ hg1, gM, B1.same ap, Tp.of upd_same (not_mem_new B1.al np), by omega, fun H2 B2 a2 hg2 => q H2 B2 (a1.trans ((Adv.nil ap).trans a2)) hg2⟩⟩
end
end K59

set_option Elab.async false
set_option linter.all false
set_option maxRecDepth 100000
set_option maxHeartbeats 400000
namespace K59
open PySem PySem.Spec PyProof.Rows L2 LL
local macro_rules | `(tactic| walk_at "ne") => `(tactic| first | assumption | (apply Ne.symm; assumption) | exact ne_of_none (by walk_at "hp") (by assumption) | exact (ne_of_none (by walk_at "hp") (by assumption)).symm)
local macro_rules | `(tactic| walk_at "nm") => `(tactic| first | assumption | exact notin0 | exact notin1 (by walk_at "ne") | exact notin2 (by walk_at "ne") (by walk_at "ne"))
local macro_rules | `(tactic| walk_at "hp") => `(tactic| first | assumption | exact upd_same | (refine Eq.trans (upd_ne ?ne) ?hh; (case hh => walk_at "hp"); (case ne => walk_at "ne")) | (refine Adv.get' (by assumption) ?hh ?nn; (case hh => walk_at "hp"); (case nn => walk_at "nm")))
local macro_rules | `(tactic| walk_at "tp") => `(tactic| first | assumption | exact Tp.adv (by walk_at "tp") (by assumption) | exact Tp.adv (by walk_at "tp") (Adv.nil (by assumption)))
local macro_rules | `(tactic| walk_at "sq") => `(tactic| first | assumption | exact Tp.sq (by assumption) (by walk_at "tp") | exact SqT.of (by walk_at "hp"))
local macro_rules | `(tactic| walk_at "at") => `(tactic| first | exact atI_nat (j := 0) rfl | exact atI_nat (j := 1) rfl | exact atI_nat (j := 2) rfl | exact atI_nat (j := 3) rfl | exact atI_nat (by assumption) | (rw [Int.zero_add]; exact atI_nat (by assumption)))
local macro_rules | `(tactic| walk_at "bb") => `(tactic| first | assumption | decide | exact rfl)
local macro_rules | `(tactic| walk_at "rd1") => `(tactic| first
  | with_reducible refine rd_c ?_
  | ((with_reducible refine' rd_var ?rh ?_); (case rh => exact rfl))
  | with_reducible refine rd_op ?_
  | with_reducible refine rd_seq ?_
  | with_reducible refine rd_asg ?_
  | with_reducible refine rd_gname ?_
  | with_reducible refine rd_ifS ?_
  | with_reducible refine rd_test ?_
  | with_reducible refine rd_tB ?_
  | with_reducible refine rd_blP ?_
  | ((with_reducible refine' iteY ?rh ?_); (case rh => walk_at "bb"))
  | ((with_reducible refine' iteN ?rh ?_); (case rh => walk_at "bb"))
  | with_reducible refine rd_ret ?_
  | with_reducible refine rd_nx ?_
  | ((with_reducible refine' rd_eq ?rh ?_); (case rh => exact rfl))
  | ((with_reducible refine' rd_ne ?rh ?_); (case rh => exact rfl))
  | with_reducible refine rd_add ?_
  | with_reducible refine rd_sub ?_
  | with_reducible refine rd_i0 ?_
  | with_reducible refine rd_and ?_
  | with_reducible refine rd_or ?_
  | with_reducible refine rd_not ?_
  | with_reducible refine rd_andV ?_
  | with_reducible refine rd_orV ?_
  | with_reducible refine rd_notV ?_
  | with_reducible refine rd_ifE ?_
  | with_reducible refine rd_isN ?_
  | with_reducible refine rd_notN ?_
  | with_reducible refine rd_cons ?_
  | with_reducible refine rd_nil ?_
  | with_reducible refine rd_tup ?_
  | with_reducible refine rd_lst ?_
  | with_reducible refine rd_call ?_
  | with_reducible refine rd_cb ?_
  | with_reducible refine rd_meth ?_
  | with_reducible refine rd_fld ?_
  | with_reducible refine rd_drop ?_
  | with_reducible refine rd_gsub ?_
  | with_reducible refine rd_gcons ?_
  | with_reducible refine rd_gnil ?_
  | with_reducible refine rd_par ?_
  | with_reducible refine rd_two ?_
  | with_reducible refine rd_part ?_
  | with_reducible refine rd_nopart ?_
  | with_reducible refine rd_int ?_
  | with_reducible refine rd_sl ?_
  | with_reducible refine rd_bm ?_
  | with_reducible refine rd_bm0 ?_
  | with_reducible refine rd_dgetT ?_
  | with_reducible refine rd_din ?_
  | with_reducible refine rd_dnin ?_
  | with_reducible refine rd_un ?_
  | ((with_reducible refine' rd_ixL ?rh ?re ?_); (case rh => walk_at "hp"); (case re => walk_at "at"))
  | ((with_reducible refine' rd_ixT ?rh ?re ?_); (case rh => walk_at "sq"); (case re => walk_at "at"))
  | ((with_reducible refine' rd_lenT ?rh ?_); (case rh => walk_at "sq"))
  | ((with_reducible refine' rd_tyL ?rh ?_); (case rh => walk_at "hp"))
  | ((with_reducible refine' rd_len ?rh ?_); (case rh => walk_at "hp"))
  | with_reducible refine rd_retN ?_)
local macro_rules | `(tactic| walk_at "rd") => `(tactic| repeat walk_at "rd1")
section
variable [KW]
variable {P : Program} {w : World} {K : PySem.W.Frag} {mg : Str → Option Value} {base : Heap}
/-! ### same_word -/
structure SameWP (C : Addr) (vs : List V) (H : Hp) (Q : VK) : Prop where
  ex : ∃ (M : List Addr) (g dx b0 b1 nd d : Addr) (ns : List Nd) (n : Nd) (l : List Nat) (f : Nat → Nat), vs = [.ref g, .ref nd, .ref d] ∧ H g = some (.ins C dx (gfl b0 b1)) ∧ g ∉ M ∧ BkN M H b0 b1 ns ∧ Tp M H nd (n.keys.map kV) ∧ H d = some (.dK (newT l f)) ∧ (∀ p ∈ n.parts, p ∈ l) ∧ n.parts ≠ [] ∧ ns.length ≤ 1000000 ∧
    ∀ H', BkN M H' b0 b1 (rowF ns (n.moved f)).2 → Adv [b0, b1] H H' → H' g = some (.ins C dx (gfl b0 b1)) → Q (.int ((rowF ns (n.moved f)).1 : Nat)) H'
def spSameW (C : Addr) : Sp := fun vs H Q _ => SameWP C vs H Q
theorem ok_same_word (A : All K mg w) (G : Grw K mg) : FnOk P w K mg base CX0 3 A.same_word.f A.same_word.fd ["growing", "node", "new"] (spSameW G.C) := by
  refine A.same_word.F.ok sc_same_word (fun vs H Q E h => ?_) (fun cdv Ar outer s H vs Q E hr h => ?_)
  · obtain ⟨M, g, dx, b0, b1, nd, d, ns, n, l, f, rfl, _⟩ := h.ex
    rfl
  · obtain ⟨M, g, dx, b0, b1, nd, d, ns, n, l, f, rfl, hg, gM, B, ha, hd, hp, hpe, hl, q⟩ := h.ex
    refine ⟨_, (pss_one (ps_ret (pe_meth (pv 0) G.cl G.mN (ok_node_row A G) (hr.mono (by omega)) G.bN .nil pass0 (pa_cons (pe_op op_catT (pe_tup (pa_cons (pe_ix ix_tup (pv 1) pe_int (fun _ _ => rfl)) pa_nil)) (pe_callTy call_tuple_of (by rfl) A.T.tuple (by decide +kernel) (pa_cons (pe_lc (own := [("part", 3)]) (g := gName 3) rfl sc_same_word.nd (pi_tup (pe_slice sl_tup (pv 1) (po_some pe_int) po_none)) (blkOk_by (own := [("part", 3)]) (N := ["growing", "node", "new", "part"]) (sc := defScope s_same_word) (by decide +kernel)) (fun _ _ _ _ _ => pg_name (i := 3) sc_same_word.nd rfl (Or.inl rfl)) (fun _ _ _ _ _ => pts_nil) (fun _ _ _ _ _ => (pe_dget (hu_of hr) (pv 2) (pv 3) (fun _ _ => rfl)))) pa_nil))) pa_nil)))), ?_⟩
    have W := A.W
    have nl : ∀ i, n ≠ .letter i := fun i z => hpe (by rw [z]; rfl)
    obtain ⟨wd, e1, e2, e3⟩ := moved_keys (n := n) f nl
    have ha' := ha
    rw [e1] at ha'
    have hpl : n.parts.length ≤ 2 := by cases n <;> simp [Nd.parts]
    walk_at "rd"
    refine rd_methA hg (gfl_no _ _ (by decide +kernel) (by decide +kernel)) ?_
    walk_at "rd"
    refine ⟨by show 1 ≤ sizeLine; decide, fun p0 n0 => ?_⟩
    have a0 : Adv [] H (upd H p0 (.tup [.str wd])) := Adv.new n0
    refine ⟨_, rfl, 1, rfl, nd, _, rfl, (ha'.adv (Adv.nil a0)).sq W, ?_, fun p1 n1 => ?_⟩
    · intro z
      have z1 := z.1
      rw [show HT.sIx (V.str wd :: nV n.parts).length 0 (some 1) = min 1 (V.str wd :: nV n.parts).length from HT.sIx_nat _ 0 1, List.length_cons] at z1
      omega
    · rw [cut_from1]
      have a1 : Adv [] H (upd (upd H p0 (.tup [.str wd])) p1 (.tup (nV n.parts))) := a0.newT n1
      refine ⟨p1, rfl, ⟨_, SqT.of upd_same⟩, fun D nD => ?_⟩
      refine lc_mapT (K := K) (a := p1) (xs := nV n.parts) (fun i => V.int ((f (n.parts.getD i 0) : Nat) : Int)) nD (SqT.of upd_same) (by unfold nV; rw [List.length_map]; omega) ?_ ?_
      · intro i x H2 acc R hx a2 hD k
        obtain ⟨r, hr1, rfl⟩ : ∃ r, n.parts[i]? = some r ∧ V.int (r : Nat) = x := by
          unfold nV at hx
          rw [List.getElem?_map, Option.map_eq_some_iff] at hx
          exact hx
        have hrl := hp r (List.mem_of_getElem? hr1)
        have hd2 := (a1.trans a2).same _ _ hd
        have er : n.parts.getD i 0 = r := by rw [List.getD_eq_getElem?_getD, hr1]; rfl
        refine ⟨rfl, _, rfl, _, rfl, d, .int (f r : Nat), rfl, new_get hd2 hrl, ?_⟩
        have := k H2 hD a2
        rw [er] at this
        exact this
      · intro H2 a2 hD
        have a02 := a1.trans a2
        have hp0 := ((Adv.new (M := []) (o := .tup (nV n.parts)) n1).trans a2).same _ _ (upd_same (H := H) (a := p0) (o := .tup [.str wd]))
        have el : ((List.range (nV n.parts).length).map fun i => V.int ((f (n.parts.getD i 0) : Nat) : Int)) = nV (n.parts.map f) := by
          unfold nV
          apply List.ext_getElem
          · simp
          · intro i h1 h2
            have hi : i < n.parts.length := by simpa using h1
            simp [hi]
        rw [el] at hD
        refine ⟨D, _, rfl, .inl ⟨SqL.of hD, fun p2 n2 => ?_⟩⟩
        have a3 := a02.newT (o := .tup (nV (n.parts.map f))) n2
        have hp02 := (Adv.new (M := []) (o := .tup (nV (n.parts.map f))) n2).same _ _ hp0
        refine ⟨p0, p2, [.str wd], nV (n.parts.map f), rfl, rfl, SqT.of hp02, SqT.of upd_same, by simp, by unfold nV; simp [sizeLine_eq]; omega, fun z => absurd z (by unfold nV; simp; exact hpe), fun _ p3 n3 => ?_⟩
        have a4 := a3.newT (o := .tup ([.str wd] ++ nV (n.parts.map f))) n3
        exact ⟨⟨M, g, dx, b0, b1, p3, ns, n.moved f, rfl, a4.same _ _ hg, gM, B.same a4, Tp.of (by rw [upd_same, e2]; rfl) (not_mem_new B.al (a3.free (by simp) n3)), hl, fun H' B' a' hg' => q H' B' ((Adv.nil a4).trans a') hg'⟩⟩
end
end K59

set_option Elab.async false
set_option linter.all false
set_option maxRecDepth 100000
set_option maxHeartbeats 400000
namespace K59
open PySem PySem.Spec PyProof.Rows L2 LL
local macro_rules | `(tactic| walk_at "ne") => `(tactic| first | assumption | (apply Ne.symm; assumption) | exact ne_of_none (by walk_at "hp") (by assumption) | exact (ne_of_none (by walk_at "hp") (by assumption)).symm)
local macro_rules | `(tactic| walk_at "nm") => `(tactic| first | assumption | exact notin0 | exact notin1 (by walk_at "ne") | exact notin2 (by walk_at "ne") (by walk_at "ne"))
local macro_rules | `(tactic| walk_at "hp") => `(tactic| first | assumption | exact upd_same | (refine Eq.trans (upd_ne ?ne) ?hh; (case hh => walk_at "hp"); (case ne => walk_at "ne")) | (refine Adv.get' (by assumption) ?hh ?nn; (case hh => walk_at "hp"); (case nn => walk_at "nm")))
local macro_rules | `(tactic| walk_at "tp") => `(tactic| first | assumption | exact Tp.adv (by walk_at "tp") (by assumption) | exact Tp.adv (by walk_at "tp") (Adv.nil (by assumption)))
local macro_rules | `(tactic| walk_at "sq") => `(tactic| first | assumption | exact Tp.sq (by assumption) (by walk_at "tp") | exact SqT.of (by walk_at "hp"))
local macro_rules | `(tactic| walk_at "at") => `(tactic| first | exact atI_nat (j := 0) rfl | exact atI_nat (j := 1) rfl | exact atI_nat (j := 2) rfl | exact atI_nat (j := 3) rfl | exact atI_nat (by assumption) | (rw [Int.zero_add]; exact atI_nat (by assumption)))
local macro_rules | `(tactic| walk_at "bb") => `(tactic| first | assumption | decide | exact rfl)
local macro_rules | `(tactic| walk_at "rd1") => `(tactic| first
  | with_reducible refine rd_c ?_
  | ((with_reducible refine' rd_var ?rh ?_); (case rh => exact rfl))
  | with_reducible refine rd_op ?_
  | with_reducible refine rd_seq ?_
  | with_reducible refine rd_asg ?_
  | with_reducible refine rd_gname ?_
  | with_reducible refine rd_ifS ?_
  | with_reducible refine rd_test ?_
  | with_reducible refine rd_tB ?_
  | with_reducible refine rd_blP ?_
  | ((with_reducible refine' iteY ?rh ?_); (case rh => walk_at "bb"))
  | ((with_reducible refine' iteN ?rh ?_); (case rh => walk_at "bb"))
  | with_reducible refine rd_ret ?_
  | with_reducible refine rd_nx ?_
  | ((with_reducible refine' rd_eq ?rh ?_); (case rh => exact rfl))
  | ((with_reducible refine' rd_ne ?rh ?_); (case rh => exact rfl))
  | with_reducible refine rd_add ?_
  | with_reducible refine rd_sub ?_
  | with_reducible refine rd_i0 ?_
  | with_reducible refine rd_and ?_
  | with_reducible refine rd_or ?_
  | with_reducible refine rd_not ?_
  | with_reducible refine rd_andV ?_
  | with_reducible refine rd_orV ?_
  | with_reducible refine rd_notV ?_
  | with_reducible refine rd_ifE ?_
  | with_reducible refine rd_isN ?_
  | with_reducible refine rd_notN ?_
  | with_reducible refine rd_cons ?_
  | with_reducible refine rd_nil ?_
  | with_reducible refine rd_tup ?_
  | with_reducible refine rd_lst ?_
  | with_reducible refine rd_call ?_
  | with_reducible refine rd_cb ?_
  | with_reducible refine rd_meth ?_
  | with_reducible refine rd_fld ?_
  | with_reducible refine rd_drop ?_
  | with_reducible refine rd_gsub ?_
  | with_reducible refine rd_gcons ?_
  | with_reducible refine rd_gnil ?_
  | with_reducible refine rd_par ?_
  | with_reducible refine rd_two ?_
  | with_reducible refine rd_part ?_
  | with_reducible refine rd_nopart ?_
  | with_reducible refine rd_int ?_
  | with_reducible refine rd_sl ?_
  | with_reducible refine rd_bm ?_
  | with_reducible refine rd_bm0 ?_
  | with_reducible refine rd_dgetT ?_
  | with_reducible refine rd_din ?_
  | with_reducible refine rd_dnin ?_
  | with_reducible refine rd_un ?_
  | ((with_reducible refine' rd_ixL ?rh ?re ?_); (case rh => walk_at "hp"); (case re => walk_at "at"))
  | ((with_reducible refine' rd_ixT ?rh ?re ?_); (case rh => walk_at "sq"); (case re => walk_at "at"))
  | ((with_reducible refine' rd_lenT ?rh ?_); (case rh => walk_at "sq"))
  | ((with_reducible refine' rd_tyL ?rh ?_); (case rh => walk_at "hp"))
  | ((with_reducible refine' rd_len ?rh ?_); (case rh => walk_at "hp"))
  | with_reducible refine rd_retN ?_)
local macro_rules | `(tactic| walk_at "rd") => `(tactic| repeat walk_at "rd1")
section
variable [KW]
variable {P : Program} {w : World} {K : PySem.W.Frag} {mg : Str → Option Value} {base : Heap}
structure RdrP (C : Addr) (wd : W3) (vs : List V) (H : Hp) (Q : VK) : Prop where
  ex : ∃ (M : List Addr) (g dx b0 b1 nd d : Addr) (ns : List Nd) (at_ : Nat) (n : Nd) (l : List Nat) (f : Nat → Nat), vs = [.ref g, .int at_, .ref nd, .ref d] ∧ H g = some (.ins C dx (gfl b0 b1)) ∧ g ∉ M ∧ BkN M H b0 b1 ns ∧ Tp M H nd (n.keys.map kV) ∧ d ≠ b0 ∧ d ≠ b1 ∧ H d = some (.dK (newT l f)) ∧ (∀ p ∈ n.parts, p ∈ l) ∧ ns.length ≤ 800000 ∧
    ∀ H', BkN M H' b0 b1 (stepF wd ns at_ n f).2 → Adv [b0, b1] H H' → H' g = some (.ins C dx (gfl b0 b1)) → Q (.int ((stepF wd ns at_ n f).1 : Nat)) H'
def spRdr (C : Addr) (wd : W3) : Sp := fun vs H Q _ => RdrP C wd vs H Q
theorem ok_negative_row (A : All K mg w) (G : Grw K mg) : FnOk P w K mg base CX0 4 A.negative_row.f A.negative_row.fd ["growing", "row", "node", "new"] (spRdr G.C .neg) := by
  refine A.negative_row.F.ok sc_negative_row (fun vs H Q E h => ?_) (fun cdv Ar outer s H vs Q E hr h => ?_)
  · obtain ⟨M, g, dx, b0, b1, nd, d, ns, at_, n, l, f, rfl, _⟩ := h.ex
    rfl
  · obtain ⟨M, g, dx, b0, b1, nd, d, ns, at_, n, l, f, rfl, hg, gM, B, ha, d0, d1, hd, hp, hl, q⟩ := h.ex
    refine ⟨_, (pss_cons (ps_if (pt_cmpR op_eq (pe_ix ix_tup (pv 2) pe_int (fun _ _ => rfl)) pe_str (nomark _))
    (pss_one (ps_ret (pe_meth (pv 0) G.cl G.mD (ok_deny A G) (hr.mono (by omega)) G.bD .nil pass0 (pa_cons (pe_meth (pv 0) G.cl G.mD (ok_deny A G) (hr.mono (by omega)) G.bD .nil pass0 (pa_cons (pv 1) pa_nil)) pa_nil))))
    pss_nil)
  (pss_cons (ps_if (pt_cmpR op_eq (pe_ix ix_tup (pv 2) pe_int (fun _ _ => rfl)) pe_str (nomark _))
    (pss_one (ps_ret (pv 1)))
    pss_nil)
  (pss_cons (ps_if (pt_cmpR op_eq (pe_ix ix_tup (pv 2) pe_int (fun _ _ => rfl)) pe_str (nomark _))
    (pss_cons (ps_par (i := 4) (j := 5) (by rfl) sc_negative_row.nd rfl rfl (by decide) rfl rfl (pa_cons (pe_meth (pv 0) G.cl G.mD (ok_deny A G) (hr.mono (by omega)) G.bD .nil pass0 (pa_cons (pe_dget (hu_of hr) (pv 3) (pe_ix ix_tup (pv 2) pe_int (fun _ _ => rfl)) (fun _ _ => rfl)) pa_nil)) (pa_cons (pe_meth (pv 0) G.cl G.mD (ok_deny A G) (hr.mono (by omega)) G.bD .nil pass0 (pa_cons (pe_dget (hu_of hr) (pv 3) (pe_ix ix_tup (pv 2) pe_int (fun _ _ => rfl)) (fun _ _ => rfl)) pa_nil)) pa_nil)) (by rfl))
  (pss_one (ps_ret (pe_meth (pv 0) G.cl G.mD (ok_deny A G) (hr.mono (by omega)) G.bD .nil pass0 (pa_cons (pe_meth (pv 0) G.cl G.mN (ok_node_row A G) (hr.mono (by omega)) G.bN .nil pass0 (pa_cons (pe_tup (pa_cons pe_str (pa_cons (pv 4) (pa_cons (pv 5) pa_nil)))) pa_nil)) pa_nil)))))
    pss_nil)
  (pss_one (ps_ret (pe_call (ok_same_word A G) (hr.mono (by omega)) rfl A.same_word.m A.same_word.F.kp A.same_word.b .nil pass0 (pa_cons (pv 0) (pa_cons (pv 2) (pa_cons (pv 3) pa_nil))))))))), ?_⟩
    have W := A.W
    have mM : ∀ b ∈ [b0, b1], b ∈ M := by simp [B.m0, B.m1]
    have dd : d ∉ [b0, b1] := by simp [d0, d1]
    have nod : (gfl b0 b1).lookup ("deny" : Str) = none := gfl_no _ _ (by decide +kernel) (by decide +kernel)
    have nor : (gfl b0 b1).lookup ("node_row" : Str) = none := gfl_no _ _ (by decide +kernel) (by decide +kernel)
    have h1 := deny_len ns at_
    cases n with
    | no =>
      walk_at "rd"
      exact q H B (Adv.refl _ _) hg
    | letter i =>
      walk_at "rd"
      refine rd_methA hg nod ?_
      walk_at "rd"
      refine rd_methA hg nod ?_
      walk_at "rd"
      exact ⟨⟨M, g, dx, b0, b1, ns, at_, rfl, hg, gM, B, by omega, fun H1 B1 a1 hg1 => ⟨⟨M, g, dx, b0, b1, _, _, rfl, hg1, gM, B1, by omega, fun H2 B2 a2 hg2 => q H2 B2 (a1.trans a2) hg2⟩⟩⟩⟩
    | bin o j k =>
      have hj := new_get hd (hp j (by simp [Nd.parts]))
      have h2 := deny_len ns (f j)
      have h3 := deny_len (denyF ns (f j)).2 (f k)
      have h4 := row_len (denyF (denyF ns (f j)).2 (f k)).2 (.bin .and (denyF ns (f j)).1 (denyF (denyF ns (f j)).2 (f k)).1)
      by_cases ho : o = .or
      · subst ho
        walk_at "rd"
        refine rd_methA hg nod ?_
        walk_at "rd"
        refine rd_dget hj ?_
        walk_at "rd"
        refine ⟨⟨M, g, dx, b0, b1, ns, f j, rfl, hg, gM, B, by omega, fun H1 B1 a1 hg1 => ?_⟩⟩
        have ha1 := ha.adv (a1.more mM)
        have hk1 := new_get (a1 _ _ dd hd) (hp k (by simp [Nd.parts]))
        walk_at "rd"
        refine rd_methA hg1 nod ?_
        walk_at "rd"
        refine rd_dget hk1 ?_
        walk_at "rd"
        refine ⟨⟨M, g, dx, b0, b1, _, f k, rfl, hg1, gM, B1, by omega, fun H2 B2 a2 hg2 => ?_⟩⟩
        walk_at "rd"
        refine rd_methA hg2 nod ?_
        walk_at "rd"
        refine rd_methA hg2 nor ?_
        walk_at "rd"
        refine ⟨by show 3 ≤ sizeLine; decide, fun p np => ?_⟩
        walk_at "rd"
        have ap : Adv [] H2 (upd H2 p (.tup [.str "and", .int ((denyF ns (f j)).1 : Nat), .int ((denyF (denyF ns (f j)).2 (f k)).1 : Nat)])) := Adv.new np
        refine ⟨⟨M, g, dx, b0, b1, p, _, .bin .and (denyF ns (f j)).1 (denyF (denyF ns (f j)).2 (f k)).1, rfl, ap.same _ _ hg2, gM, B2.same ap, Tp.of upd_same (not_mem_new B2.al np), by omega, fun H3 B3 a3 hg3 => ?_⟩⟩
        exact ⟨⟨M, g, dx, b0, b1, _, _, rfl, hg3, gM, B3, by omega, fun H4 B4 a4 hg4 => q H4 B4 (((a1.trans a2).trans ((Adv.nil ap).trans a3)).trans a4) hg4⟩⟩
      · cases o with
        | or => exact absurd rfl ho
        | and =>
          walk_at "rd"
          exact ⟨⟨M, g, dx, b0, b1, nd, d, ns, .bin .and j k, l, f, rfl, hg, gM, B, ha, hd, hp, by simp [Nd.parts], by omega, q⟩⟩
        | imp =>
          walk_at "rd"
          exact ⟨⟨M, g, dx, b0, b1, nd, d, ns, .bin .imp j k, l, f, rfl, hg, gM, B, ha, hd, hp, by simp [Nd.parts], by omega, q⟩⟩
    | box j =>
      walk_at "rd"
      exact ⟨⟨M, g, dx, b0, b1, nd, d, ns, .box j, l, f, rfl, hg, gM, B, ha, hd, hp, by simp [Nd.parts], by omega, q⟩⟩
theorem ok_boxed_row (A : All K mg w) (G : Grw K mg) : FnOk P w K mg base CX0 4 A.boxed_row.f A.boxed_row.fd ["growing", "row", "node", "new"] (spRdr G.C .box) := by
  refine A.boxed_row.F.ok sc_boxed_row (fun vs H Q E h => ?_) (fun cdv Ar outer s H vs Q E hr h => ?_)
  · obtain ⟨M, g, dx, b0, b1, nd, d, ns, at_, n, l, f, rfl, _⟩ := h.ex
    rfl
  · obtain ⟨M, g, dx, b0, b1, nd, d, ns, at_, n, l, f, rfl, hg, gM, B, ha, d0, d1, hd, hp, hl, q⟩ := h.ex
    refine ⟨_, (pss_cons (ps_if (pt_cmpR op_eq (pe_ix ix_tup (pv 2) pe_int (fun _ _ => rfl)) pe_str (nomark _))
    (pss_one (ps_ret (pe_meth (pv 0) G.cl G.mN (ok_node_row A G) (hr.mono (by omega)) G.bN .nil pass0 (pa_cons (pe_tup (pa_cons pe_str (pa_cons (pv 1) pa_nil))) pa_nil))))
    pss_nil)
  (pss_cons (ps_if (pt_cmpR op_eq (pe_ix ix_tup (pv 2) pe_int (fun _ _ => rfl)) pe_str (nomark _))
    (pss_one (ps_ret (pv 1)))
    pss_nil)
  (pss_cons (ps_set (i := 4) sc_boxed_row.nd rfl (Or.inl rfl) (pe_call (ok_same_word A G) (hr.mono (by omega)) rfl A.same_word.m A.same_word.F.kp A.same_word.b .nil pass0 (pa_cons (pv 0) (pa_cons (pv 2) (pa_cons (pv 3) pa_nil)))))
  (pss_one (ps_ret (pe_ifExp (pt_cmpR op_eq (pe_ix ix_tup (pv 2) pe_int (fun _ _ => rfl)) pe_str (nomark _)) (pe_meth (pv 0) G.cl G.mN (ok_node_row A G) (hr.mono (by omega)) G.bN .nil pass0 (pa_cons (pe_tup (pa_cons pe_str (pa_cons (pv 4) pa_nil))) pa_nil)) (pv 4))))))), ?_⟩
    have W := A.W
    have mM : ∀ b ∈ [b0, b1], b ∈ M := by simp [B.m0, B.m1]
    have nor : (gfl b0 b1).lookup ("node_row" : Str) = none := gfl_no _ _ (by decide +kernel) (by decide +kernel)
    cases n with
    | no =>
      walk_at "rd"
      exact q H B (Adv.refl _ _) hg
    | letter i =>
      walk_at "rd"
      refine rd_methA hg nor ?_
      walk_at "rd"
      refine ⟨by show 2 ≤ sizeLine; decide, fun p np => ?_⟩
      walk_at "rd"
      have ap : Adv [] H (upd H p (.tup [.str "box", .int at_])) := Adv.new np
      exact ⟨⟨M, g, dx, b0, b1, p, ns, .box at_, rfl, ap.same _ _ hg, gM, B.same ap, Tp.of upd_same (not_mem_new B.al np), by omega, fun H3 B3 a3 hg3 => q H3 B3 ((Adv.nil ap).trans a3) hg3⟩⟩
    | bin o j k =>
      have h5 := row_len ns (.bin o (f j) (f k))
      cases o with
      | imp =>
        walk_at "rd"
        refine ⟨⟨M, g, dx, b0, b1, nd, d, ns, .bin .imp j k, l, f, rfl, hg, gM, B, ha, hd, hp, by simp [Nd.parts], by omega, fun H1 B1 a1 hg1 => ?_⟩⟩
        have ha1 := ha.adv (a1.more mM)
        walk_at "rd"
        refine rd_methA hg1 nor ?_
        walk_at "rd"
        refine ⟨by show 2 ≤ sizeLine; decide, fun p np => ?_⟩
        walk_at "rd"
        have ap : Adv [] H1 (upd H1 p (.tup [.str "box", .int ((rowF ns (.bin .imp (f j) (f k))).1 : Nat)])) := Adv.new np
        exact ⟨⟨M, g, dx, b0, b1, p, _, .box (rowF ns (.bin .imp (f j) (f k))).1, rfl, ap.same _ _ hg1, gM, B1.same ap, Tp.of upd_same (not_mem_new B1.al np), by show (rowF ns (.bin .imp (f j) (f k))).2.length ≤ _; omega, fun H3 B3 a3 hg3 => q H3 B3 (a1.trans ((Adv.nil ap).trans a3)) hg3⟩⟩
      | and =>
        walk_at "rd"
        refine ⟨⟨M, g, dx, b0, b1, nd, d, ns, .bin .and j k, l, f, rfl, hg, gM, B, ha, hd, hp, by simp [Nd.parts], by omega, fun H1 B1 a1 hg1 => ?_⟩⟩
        have ha1 := ha.adv (a1.more mM)
        walk_at "rd"
        exact q H1 B1 a1 hg1
      | or =>
        walk_at "rd"
        refine ⟨⟨M, g, dx, b0, b1, nd, d, ns, .bin .or j k, l, f, rfl, hg, gM, B, ha, hd, hp, by simp [Nd.parts], by omega, fun H1 B1 a1 hg1 => ?_⟩⟩
        have ha1 := ha.adv (a1.more mM)
        walk_at "rd"
        exact q H1 B1 a1 hg1
    | box j =>
      walk_at "rd"
      refine ⟨⟨M, g, dx, b0, b1, nd, d, ns, .box j, l, f, rfl, hg, gM, B, ha, hd, hp, by simp [Nd.parts], by omega, fun H1 B1 a1 hg1 => ?_⟩⟩
      have ha1 := ha.adv (a1.more mM)
      walk_at "rd"
      exact q H1 B1 a1 hg1
theorem in_ln (x : Str) : inV (.str x) [.str "letter", .str "no"] = (decide (x = "letter") || decide (x = "no")) := (inV_strs x ["letter", "no"]).trans (by simp)
theorem ok_doubled_row (A : All K mg w) (G : Grw K mg) : FnOk P w K mg base CX0 4 A.doubled_row.f A.doubled_row.fd ["growing", "row", "node", "new"] (spRdr G.C .dou) := by
  refine A.doubled_row.F.ok sc_doubled_row (fun vs H Q E h => ?_) (fun cdv Ar outer s H vs Q E hr h => ?_)
  · obtain ⟨M, g, dx, b0, b1, nd, d, ns, at_, n, l, f, rfl, _⟩ := h.ex
    rfl
  · obtain ⟨M, g, dx, b0, b1, nd, d, ns, at_, n, l, f, rfl, hg, gM, B, ha, d0, d1, hd, hp, hl, q⟩ := h.ex
    refine ⟨_, (pss_cons (ps_if (pt_cmpR op_in_seq (pe_ix ix_tup (pv 2) pe_int (fun _ _ => rfl)) (pe_tup (pa_cons pe_str (pa_cons pe_str pa_nil))) rfl)
    (pss_one (ps_ret (pv 1)))
    pss_nil)
  (pss_cons (ps_set (i := 4) sc_doubled_row.nd rfl (Or.inl rfl) (pe_call (ok_same_word A G) (hr.mono (by omega)) rfl A.same_word.m A.same_word.F.kp A.same_word.b .nil pass0 (pa_cons (pv 0) (pa_cons (pv 2) (pa_cons (pv 3) pa_nil)))))
  (pss_one (ps_ret (pe_ifExp (pt_cmpR op_eq (pe_ix ix_tup (pv 2) pe_int (fun _ _ => rfl)) pe_str (nomark _)) (pe_meth (pv 0) G.cl G.mN (ok_node_row A G) (hr.mono (by omega)) G.bN .nil pass0 (pa_cons (pe_tup (pa_cons pe_str (pa_cons (pe_dget (hu_of hr) (pv 3) (pe_ix ix_tup (pv 2) pe_int (fun _ _ => rfl)) (fun _ _ => rfl)) (pa_cons (pv 4) pa_nil)))) pa_nil)) (pv 4)))))), ?_⟩
    have W := A.W
    have mM : ∀ b ∈ [b0, b1], b ∈ M := by simp [B.m0, B.m1]
    have dd : d ∉ [b0, b1] := by simp [d0, d1]
    have nor : (gfl b0 b1).lookup ("node_row" : Str) = none := gfl_no _ _ (by decide +kernel) (by decide +kernel)
    have st : ∀ {p : Addr}, H p = none → Adv [] H (upd H p (.tup [.str "letter", .str "no"])) := fun h => Adv.new h
    cases n with
    | no =>
      walk_at "rd"
      refine ⟨by show 2 ≤ sizeLine; decide, fun p np => ?_⟩
      refine ⟨p, _, rfl, .inr (SqT.of upd_same), rfl, rfl, _, rfl, iteY (by decide) ?_⟩
      walk_at "rd"
      exact q _ (B.same (st np)) (Adv.nil (st np)) ((st np).same _ _ hg)
    | letter i =>
      walk_at "rd"
      refine ⟨by show 2 ≤ sizeLine; decide, fun p np => ?_⟩
      refine ⟨p, _, rfl, .inr (SqT.of upd_same), rfl, rfl, _, rfl, iteY (by decide) ?_⟩
      walk_at "rd"
      exact q _ (B.same (st np)) (Adv.nil (st np)) ((st np).same _ _ hg)
    | bin o j k =>
      walk_at "rd"
      refine ⟨by show 2 ≤ sizeLine; decide, fun p np => ?_⟩
      have a0 := st np
      refine ⟨p, _, rfl, .inr (SqT.of upd_same), by cases o <;> rfl, rfl, _, rfl, iteN (by cases o <;> decide) ?_⟩
      walk_at "rd"
      refine ⟨⟨M, g, dx, b0, b1, nd, d, ns, .bin o j k, l, f, rfl, a0.same _ _ hg, gM, B.same a0, ha.adv (Adv.nil a0), a0.same _ _ hd, hp, by simp [Nd.parts], by omega, fun H1 B1 a1 hg1 => ?_⟩⟩
      have ha1 := (ha.adv (Adv.nil a0)).adv (a1.more mM)
      cases o <;>
      · walk_at "rd"
        exact q H1 B1 ((Adv.nil a0).trans a1) hg1
    | box j =>
      have h5 := row_len ns (.box (f j))
      walk_at "rd"
      refine ⟨by show 2 ≤ sizeLine; decide, fun p np => ?_⟩
      have a0 := st np
      refine ⟨p, _, rfl, .inr (SqT.of upd_same), rfl, rfl, _, rfl, iteN (by decide) ?_⟩
      walk_at "rd"
      refine ⟨⟨M, g, dx, b0, b1, nd, d, ns, .box j, l, f, rfl, a0.same _ _ hg, gM, B.same a0, ha.adv (Adv.nil a0), a0.same _ _ hd, hp, by simp [Nd.parts], by omega, fun H1 B1 a1 hg1 => ?_⟩⟩
      have ha1 := (ha.adv (Adv.nil a0)).adv (a1.more mM)
      have hj1 := new_get (a1 _ _ dd (a0.same _ _ hd)) (hp j (by simp [Nd.parts]))
      walk_at "rd"
      refine rd_methA hg1 nor ?_
      walk_at "rd"
      refine rd_dget hj1 ?_
      walk_at "rd"
      refine ⟨by show 3 ≤ sizeLine; decide, fun p2 np2 => ?_⟩
      walk_at "rd"
      have ap : Adv [] H1 (upd H1 p2 (.tup [.str "and", .int (f j : Nat), .int ((rowF ns (.box (f j))).1 : Nat)])) := Adv.new np2
      exact ⟨⟨M, g, dx, b0, b1, p2, _, .bin .and (f j) (rowF ns (.box (f j))).1, rfl, ap.same _ _ hg1, gM, B1.same ap, Tp.of upd_same (not_mem_new B1.al np2), by show (rowF ns (.box (f j))).2.length ≤ _; omega, fun H3 B3 a3 hg3 => q H3 B3 ((Adv.nil a0).trans (a1.trans ((Adv.nil ap).trans a3))) hg3⟩⟩
end
end K59

set_option Elab.async false
set_option linter.all false
set_option maxRecDepth 100000
set_option maxHeartbeats 400000
namespace K59
open PySem PySem.Spec PyProof.Rows L2 LL
local macro_rules | `(tactic| walk_at "ne") => `(tactic| first | assumption | (apply Ne.symm; assumption) | exact ne_of_none (by walk_at "hp") (by assumption) | exact (ne_of_none (by walk_at "hp") (by assumption)).symm)
local macro_rules | `(tactic| walk_at "nm") => `(tactic| first | assumption | exact notin0 | exact notin1 (by walk_at "ne") | exact notin2 (by walk_at "ne") (by walk_at "ne"))
local macro_rules | `(tactic| walk_at "hp") => `(tactic| first | assumption | exact upd_same | (refine Eq.trans (upd_ne ?ne) ?hh; (case hh => walk_at "hp"); (case ne => walk_at "ne")) | (refine Adv.get' (by assumption) ?hh ?nn; (case hh => walk_at "hp"); (case nn => walk_at "nm")))
local macro_rules | `(tactic| walk_at "tp") => `(tactic| first | assumption | exact Tp.adv (by walk_at "tp") (by assumption) | exact Tp.adv (by walk_at "tp") (Adv.nil (by assumption)))
local macro_rules | `(tactic| walk_at "sq") => `(tactic| first | assumption | exact Tp.sq (by assumption) (by walk_at "tp") | exact SqT.of (by walk_at "hp"))
local macro_rules | `(tactic| walk_at "at") => `(tactic| first | exact atI_nat (j := 0) rfl | exact atI_nat (j := 1) rfl | exact atI_nat (j := 2) rfl | exact atI_nat (j := 3) rfl | exact atI_nat (by assumption) | (rw [Int.zero_add]; exact atI_nat (by assumption)))
local macro_rules | `(tactic| walk_at "bb") => `(tactic| first | assumption | decide | exact rfl)
local macro_rules | `(tactic| walk_at "rd1") => `(tactic| first
  | with_reducible refine rd_c ?_
  | ((with_reducible refine' rd_var ?rh ?_); (case rh => exact rfl))
  | with_reducible refine rd_op ?_
  | with_reducible refine rd_seq ?_
  | with_reducible refine rd_asg ?_
  | with_reducible refine rd_gname ?_
  | with_reducible refine rd_ifS ?_
  | with_reducible refine rd_test ?_
  | with_reducible refine rd_tB ?_
  | with_reducible refine rd_blP ?_
  | ((with_reducible refine' iteY ?rh ?_); (case rh => walk_at "bb"))
  | ((with_reducible refine' iteN ?rh ?_); (case rh => walk_at "bb"))
  | with_reducible refine rd_ret ?_
  | with_reducible refine rd_nx ?_
  | ((with_reducible refine' rd_eq ?rh ?_); (case rh => exact rfl))
  | ((with_reducible refine' rd_ne ?rh ?_); (case rh => exact rfl))
  | with_reducible refine rd_add ?_
  | with_reducible refine rd_sub ?_
  | with_reducible refine rd_i0 ?_
  | with_reducible refine rd_and ?_
  | with_reducible refine rd_or ?_
  | with_reducible refine rd_not ?_
  | with_reducible refine rd_andV ?_
  | with_reducible refine rd_orV ?_
  | with_reducible refine rd_notV ?_
  | with_reducible refine rd_ifE ?_
  | with_reducible refine rd_isN ?_
  | with_reducible refine rd_notN ?_
  | with_reducible refine rd_cons ?_
  | with_reducible refine rd_nil ?_
  | with_reducible refine rd_tup ?_
  | with_reducible refine rd_lst ?_
  | with_reducible refine rd_call ?_
  | with_reducible refine rd_cb ?_
  | with_reducible refine rd_meth ?_
  | with_reducible refine rd_fld ?_
  | with_reducible refine rd_drop ?_
  | with_reducible refine rd_gsub ?_
  | with_reducible refine rd_gcons ?_
  | with_reducible refine rd_gnil ?_
  | with_reducible refine rd_par ?_
  | with_reducible refine rd_two ?_
  | with_reducible refine rd_part ?_
  | with_reducible refine rd_nopart ?_
  | with_reducible refine rd_int ?_
  | with_reducible refine rd_sl ?_
  | with_reducible refine rd_bm ?_
  | with_reducible refine rd_bm0 ?_
  | with_reducible refine rd_dgetT ?_
  | with_reducible refine rd_din ?_
  | with_reducible refine rd_dnin ?_
  | with_reducible refine rd_un ?_
  | ((with_reducible refine' rd_ixL ?rh ?re ?_); (case rh => walk_at "hp"); (case re => walk_at "at"))
  | ((with_reducible refine' rd_ixT ?rh ?re ?_); (case rh => walk_at "sq"); (case re => walk_at "at"))
  | ((with_reducible refine' rd_lenT ?rh ?_); (case rh => walk_at "sq"))
  | ((with_reducible refine' rd_tyL ?rh ?_); (case rh => walk_at "hp"))
  | ((with_reducible refine' rd_len ?rh ?_); (case rh => walk_at "hp"))
  | with_reducible refine rd_retN ?_)
local macro_rules | `(tactic| walk_at "rd") => `(tactic| repeat walk_at "rd1")
section
variable [KW]
variable {P : Program} {w : World} {K : PySem.W.Frag} {mg : Str → Option Value} {base : Heap}
def rdrF (A : All K mg w) : W3 → Addr
  | .neg => A.negative_row.f
  | .box => A.boxed_row.f
  | .dou => A.doubled_row.f
/-- the written dict of the readers -/
structure Rds (A : All K mg w) : Prop where
  ex : ∃ a, mg "READERS" = some (.ref a) ∧ ∀ wd : W3, KDct K w a wd.str (.ref (rdrF A wd))
def rdS (A : All K mg w) (G : Grw K mg) (wd : W3) : Addr → Option Sp := fun f => if f = rdrF A wd then some (spRdr G.C wd) else none
theorem rd_held (A : All K mg w) (G : Grw K mg) (wd : W3) : ∀ f sp, rdS A G wd f = some sp → Held P w K mg base 4 f sp := fun f sp h => by
  unfold rdS at h
  split at h
  · rename_i e
    cases h
    subst e
    cases wd with
    | neg => exact ⟨⟨_, _, ok_negative_row A G, A.negative_row.F.kp, A.negative_row.b⟩⟩
    | box => exact ⟨⟨_, _, ok_boxed_row A G, A.boxed_row.F.kp, A.boxed_row.b⟩⟩
    | dou => exact ⟨⟨_, _, ok_doubled_row A G, A.doubled_row.F.kp, A.doubled_row.b⟩⟩
  · cases h
/-! ### grown -/
structure GrownP (C : Addr) (vs : List V) (H : Hp) (Q : VK) : Prop where
  ex : ∃ (M : List Addr) (g dx b0 b1 rw_ : Addr) (ns : List Nd) (rows : List Nat) (boxed : Bool) (wd : W3), vs = [.ref g, .ref rw_, .str wd.str] ∧ H g = some (.ins C dx (gfl b0 b1)) ∧ g ∉ M ∧ BkN M H b0 b1 ns ∧ okSheet boxed ns ∧ ns.length ≤ 10000 ∧
    H rw_ = some (.lst (nV rows)) ∧ (∀ r ∈ rows, r < ns.length) ∧ rows.length ≤ 10000 ∧
    ∀ d H', H d = none → H' d = some (.dK (newT (belowF ns rows) (readF wd ns (belowF ns rows) ns (fun _ => 0)).2)) → BkN M H' b0 b1 (readF wd ns (belowF ns rows) ns (fun _ => 0)).1 → Adv [b0, b1] H H' → H' g = some (.ins C dx (gfl b0 b1)) → Q (.ref d) H'
def spGrown (C : Addr) : Sp := fun vs H Q _ => GrownP C vs H Q
theorem ok_grown (A : All K mg w) (G : Grw K mg) (R : Rds A) : FnOk P w K mg base CX0 5 A.grown.f A.grown.fd ["growing", "rows", "word"] (spGrown G.C) := by
  refine A.grown.F.ok sc_grown (fun vs H Q E h => ?_) (fun cdv Ar outer s H vs Q E hr h => ?_)
  · obtain ⟨M, g, dx, b0, b1, rw_, ns, rows, boxed, wd, rfl, _⟩ := h.ex
    rfl
  · obtain ⟨M, g, dx, b0, b1, rw_, ns, rows, boxed, wd, rfl, hg, gM, B, ok, hl, hrw, hrows, hl2, q⟩ := h.ex
    obtain ⟨aR, mR, tR⟩ := R.ex
    refine ⟨_, (pss_cons (ps_set (i := 3) sc_grown.nd rfl (Or.inl rfl) (pe_ix ix_kdict (pe_glob (v := .ref aR) rfl mR rfl) (pv 2) (fun _ _ => rfl)))
  (pss_cons (ps_set (i := 4) sc_grown.nd rfl (Or.inl rfl) (pe_callTy call_list_of (by rfl) A.T.list (by decide +kernel) (pa_cons (pe_fld (pv 0) rfl) pa_nil)))
  (pss_cons (ps_set (i := 5) sc_grown.nd rfl (Or.inl rfl) pe_dnewK)
  (pss_cons (ps_for PassesOwn.never rfl (pi_list (pe_call (ok_rows_below A) (hr.mono (by omega)) rfl A.rows_below.m A.rows_below.F.kp A.rows_below.b .nil pass0 (pa_cons (pv 4) (pa_cons (pv 1) pa_nil)))) (pg_name (i := 6) sc_grown.nd rfl (Or.inl rfl))
    (pss_one (ps_dput (hu_of hr) (pv 5) (pv 6) (pe_callA (i := 3) (S := rdS A G wd) (rd_held A G wd) (hr.mono (by omega)) rfl (.inl rfl) (pa_cons (pv 0) (pa_cons (pv 6) (pa_cons (pe_ix ix_list (pv 4) (pv 6) (fun _ _ => rfl)) (pa_cons (pv 5) pa_nil))))) rfl)))
  (pss_one (ps_ret (pv 5))))))), ?_⟩
    obtain ⟨rs, r0, rd⟩ := B.rows
    have mM : ∀ b ∈ [b0, b1], b ∈ M := by simp [B.m0, B.m1]
    have gB := notin_bk B gM
    walk_at "rd"
    refine ⟨aR, wd.str, _, rfl, rfl, tR wd, ?_⟩
    walk_at "rd"
    refine rd_fldA hg G.cl G.nS (gfl_s _ _) ?_
    walk_at "rd"
    intro sl nsl
    walk_at "rd"
    intro d nd
    have as_ : Adv [] H (upd H sl (.lst rs)) := Adv.new nsl
    have ad : Adv [] H (upd (upd H sl (.lst rs)) d (.dK [])) := as_.newT nd
    have nds : sl ≠ d := fun z => by rw [← z, upd_same] at nd; cases nd
    have nd0 : H d = none := by rw [upd_ne nds.symm] at nd; exact nd
    have hsl : (upd (upd H sl (.lst rs)) d (.dK [])) sl = some (.lst rs) := by rw [upd_ne nds, upd_same]
    have rd1 : IsDs M (upd (upd H sl (.lst rs)) d (.dK [])) (ns.map Nd.data) rs := rd.adv (Adv.nil ad)
    have B1 := B.same ad
    walk_at "rd"
    refine ⟨_, rfl, _, rfl, sl, rw_, ns, rs, rows, boxed, rfl, hsl, rd1.less (by simp), ad.same _ _ hrw, hrows, ok, hl, hl2, fun L H2 nL hL a2 => ?_⟩
    refine ⟨L, rfl, ⟨_, SqL.of hL⟩, ?_⟩
    have hd2 := a2.same _ _ (show (upd (upd H sl (.lst rs)) d (.dK [])) d = some (.dK []) from upd_same)
    have nLd : L ≠ d := fun z => by rw [z, upd_same] at nL; cases nL
    have nLs : L ≠ sl := fun z => by rw [z, hsl] at nL; cases nL
    have aH2 := ad.trans a2
    have nL0 : H L = none := ad.free (by simp) nL
    have d0 : d ≠ b0 := fun z => B.al b0 B.m0 (by rw [← z]; exact nd0)
    have d1 : d ≠ b1 := fun z => B.al b1 B.m1 (by rw [← z]; exact nd0)
    have L0 : L ≠ b0 := fun z => B.al b0 B.m0 (by rw [← z]; exact nL0)
    have L1 : L ≠ b1 := fun z => B.al b1 B.m1 (by rw [← z]; exact nL0)
    have s0 : sl ≠ b0 := fun z => B.al b0 B.m0 (by rw [← z]; exact nsl)
    have s1 : sl ≠ b1 := fun z => B.al b1 B.m1 (by rw [← z]; exact nsl)
    have gd : g ≠ d := ne_of_none hg nd0
    have dM : d ∉ M := fun z => B.al d z nd0
    refine for_list (a := L) (xs := nV (belowF ns rows)) (fun i σ' H' => ∃ x6, σ' = [some (.ref g), some (.ref rw_), some (.str wd.str), some (.ref (rdrF A wd)), some (.ref sl), some (.ref d), x6] ∧ H' L = some (.lst (nV (belowF ns rows))) ∧ H' sl = some (.lst rs) ∧ H' g = some (.ins G.C dx (gfl b0 b1)) ∧
        H' d = some (.dK (newT ((belowF ns rows).take i) (readF wd ns ((belowF ns rows).take i) ns (fun _ => 0)).2)) ∧ BkN (d :: M) H' b0 b1 (readF wd ns ((belowF ns rows).take i) ns (fun _ => 0)).1 ∧ Adv [b0, b1] H H')
      ⟨_, rfl, hL, a2.same _ _ hsl, aH2.same _ _ hg, hd2, ((B.same as_).fresh nd).same a2, Adv.nil aH2⟩ ?_ ?_ ?_
    · rintro i σ' H' hi ⟨x4, rfl, hL', _⟩
      exact SqL.of hL'
    · rintro i x σ' H' hx ⟨x4, rfl, hL', hsl', hg', hd', B', a'⟩
      obtain ⟨r, hr1, rfl⟩ : ∃ r, (belowF ns rows)[i]? = some r ∧ V.int (r : Nat) = x := by
        unfold nV at hx
        rw [List.getElem?_map, Option.map_eq_some_iff] at hx
        exact hx
      have hrm := List.mem_of_getElem? hr1
      have hrn := (below_mem.mp hrm).1
      have hnr : ns[r]? = some ns[r] := List.getElem?_eq_getElem hrn
      have hlen := readF_len wd ns ((belowF ns rows).take i) ns (fun _ => 0)
      have hbl : (belowF ns rows).length ≤ ns.length := by
        have := List.length_filter_le (marked ns rows) (List.range ns.length)
        rw [List.length_range] at this
        exact this
      have htl : ((belowF ns rows).take i).length ≤ ns.length := by rw [List.length_take]; omega
      have hpt : ∀ p ∈ (ns[r]).parts, p ∈ (belowF ns rows).take i := fun p hp => by
        obtain ⟨h1, h2⟩ := below_parts ok hrm hnr p hp
        exact below_take hr1 h1 h2
      obtain ⟨v, hv, isv⟩ := rd.get (i := r) (d := (ns[r]).data) (by rw [List.getElem?_map, hnr]; rfl)
      obtain ⟨na, rfl, hna⟩ := nd_is isv
      have hna' : Tp (d :: M) H' na ((ns[r]).keys.map kV) := (hna.fresh nd0).adv (a'.more (by simp [B.m0, B.m1]))
      walk_at "rd"
      refine ⟨rdrF A wd, spRdr G.C wd, rfl, if_pos rfl, ?_⟩
      walk_at "rd"
      refine ⟨⟨d :: M, g, dx, b0, b1, na, d, _, r, ns[r], _, _, rfl, hg', by simp [gd, gM], B', hna', d0, d1, hd', hpt, by omega, fun H3 B3 a3 hg3 => ?_⟩⟩
      have hd3 := a3 _ _ (by simp [d0, d1]) hd'
      refine ⟨_, rfl, _, rfl, d, _, rfl, DPut.k (k := (Sum.inl (r : Int) : Key)) hd3 (by unfold newT; rw [List.length_map, sizeLine_eq]; omega), ?_⟩
      rw [new_put (below_notin hr1)]
      have e1 : (belowF ns rows).take (i + 1) = (belowF ns rows).take i ++ [r] := by rw [List.take_succ, hr1]; rfl
      rw [e1, readF_snoc, hnr]
      refine ⟨_, rfl, by rw [upd_ne nLd]; exact a3 _ _ (by simp [L0, L1]) hL', by rw [upd_ne nds]; exact a3 _ _ (by simp [s0, s1]) hsl', by rw [upd_ne gd]; exact hg3, upd_same, ?_, (a'.trans a3).mut nd0⟩
      exact B3.adv (N := [d]) (Adv.set (by simp)) (by simpa using d0.symm) (by simpa using d1.symm) (by simp) (fun b hb => by rw [List.mem_singleton.mp hb, upd_same]; simp)
    · rintro σ' H' ⟨x4, rfl, hL', hsl', hg', hd', B', a'⟩
      have et : (belowF ns rows).take (nV (belowF ns rows)).length = belowF ns rows := by unfold nV; rw [List.length_map, List.take_length]
      rw [et] at hd' B'
      walk_at "rd"
      exact q d H' nd0 hd' (B'.less (by simp +contextual) B.m0 B.m1) a' hg'
end
end K59

set_option Elab.async false
set_option linter.all false
set_option maxRecDepth 100000
set_option maxHeartbeats 400000
namespace K59
open PySem PySem.Spec PyProof.Rows L2 LL
def allNames : List Str := ["BadLogic", "BadSheet", "BadClaim", "BadModel", "BadPaper", "BadTerm", "BadEdit", "BadValue", "BadText", "BadSize", "TooMany", "NotBoxed", "NotProved", "NotThere", "NothingToUndo", "NothingToRedo"]
/-- the classes of errors -/
structure Exs (K : PySem.W.Frag) (mg : Str → Option Value) where
  CE : Addr
  cA : Str → Addr
  mC : mg "CourtError" = some (.ref CE)
  mA : ∀ n ∈ allNames, mg n = some (.ref (cA n))
/-- what kind of error the class of this name is -/
structure NF {K : PySem.W.Frag} {mg : Str → Option Value} (Z : Exs K mg) (nm : Str) : Prop where
  eD : ExcC K (Z.cA nm)
  k : ∀ n ∈ allNames, PySem.W.kitOne K (.ref (Z.cA nm)) (.ref (Z.cA n)) = some (decide (n = nm))
  kC : PySem.W.kitOne K (.ref (Z.cA nm)) (.ref Z.CE) = some true
  kV : PySem.W.kitOne K (.ref (Z.cA nm)) (.type "ValueError") = some true
  hC : PySem.W.exmOne K (.ref (Z.cA nm)) (.ref Z.CE) = some true
def allBs (nm : Str) : List V := allNames.map fun n => V.bl (decide (n = nm))

abbrev s_BadSheet : Stmt := inClass (top 3) 0
theorem sc_BadSheet : FnScope ["self", "row"] ["self", "row"] (defScope s_BadSheet) := ⟨rfl, rfl, rfl, by decide +kernel, rfl, by decide +kernel, by decide +kernel⟩
structure Er_BadSheet {K : PySem.W.Frag} {mg : Str → Option Value} (Z : Exs K mg) where
  O : OexC K (Z.cA "BadSheet")
  f : Addr
  fd : FuncData
  I : PySem.W.findIn K (.ref (Z.cA "BadSheet")) "__init__" = some (some (.ref f))
  T : PySem.W.typeIn K (.ref f) = some (.type "function")
  F : Fun K "__init__" "BadSheet.__init__" s_BadSheet f fd
  b : Binds K fd ["self", "row"] []
  X : XfC K (Z.cA "BadSheet")
  A_ : PySem.W.findIn K (.ref (Z.cA "BadSheet")) "row" = some none
  N : NF Z "BadSheet"
abbrev s_BadValue : Stmt := inClass (top 9) 0
theorem sc_BadValue : FnScope ["self", "name"] ["self", "name"] (defScope s_BadValue) := ⟨rfl, rfl, rfl, by decide +kernel, rfl, by decide +kernel, by decide +kernel⟩
structure Er_BadValue {K : PySem.W.Frag} {mg : Str → Option Value} (Z : Exs K mg) where
  O : OexC K (Z.cA "BadValue")
  f : Addr
  fd : FuncData
  I : PySem.W.findIn K (.ref (Z.cA "BadValue")) "__init__" = some (some (.ref f))
  T : PySem.W.typeIn K (.ref f) = some (.type "function")
  F : Fun K "__init__" "BadValue.__init__" s_BadValue f fd
  b : Binds K fd ["self", "name"] []
  X : XfC K (Z.cA "BadValue")
  A_ : PySem.W.findIn K (.ref (Z.cA "BadValue")) "name" = some none
  N : NF Z "BadValue"
section
variable [KW]
variable {P : Program} {w : World} {K : PySem.W.Frag} {mg : Str → Option Value} {base : Heap}
/-! ### __init__ -/
def spInit (S : Addr) (fl : Str) : Sp := fun vs H Q _ => ∃ (a : Addr) (y : V), vs = [.ref a, y] ∧ H a = some (exo a S none) ∧ ∀ dx, H dx = none → dx ≠ a → Q .non (upd (upd H dx (exd dx [(fl, y)])) a (exo a S (some dx)))
theorem ok_BadSheet {Z : Exs K mg} (Z1 : Er_BadSheet Z) : FnOk P w K mg base CX0 1 Z1.f Z1.fd ["self", "row"] (spInit (Z.cA "BadSheet") "row") := by
  refine Z1.F.ok sc_BadSheet (fun vs H Q E h => ?_) (fun cdv Ar outer s H vs Q E hr h => ?_)
  · obtain ⟨a, y, rfl, _⟩ := h
    rfl
  · obtain ⟨a, y, rfl, ha, q⟩ := h
    refine ⟨_, pss_one (ps_ost (pv 0) (pv 1)), ?_⟩
    exact ⟨_, rfl, _, rfl, a, Z.cA "BadSheet", rfl, Z1.O, Z1.A_, .inl ⟨ha, fun dx n1 n2 => q dx n1 n2⟩⟩
theorem ok_BadValue {Z : Exs K mg} (Z1 : Er_BadValue Z) : FnOk P w K mg base CX0 1 Z1.f Z1.fd ["self", "name"] (spInit (Z.cA "BadValue") "name") := by
  refine Z1.F.ok sc_BadValue (fun vs H Q E h => ?_) (fun cdv Ar outer s H vs Q E hr h => ?_)
  · obtain ⟨a, y, rfl, _⟩ := h
    rfl
  · obtain ⟨a, y, rfl, ha, q⟩ := h
    refine ⟨_, pss_one (ps_ost (pv 0) (pv 1)), ?_⟩
    exact ⟨_, rfl, _, rfl, a, Z.cA "BadValue", rfl, Z1.O, Z1.A_, .inl ⟨ha, fun dx n1 n2 => q dx n1 n2⟩⟩
/-! ### _law_named -/
def spNamed (D : Addr) (nm : Str) : Addr × Obj → Sp := fun p vs H Q _ => ∃ (d : Option Addr), vs = [.ref p.1] ∧ Zc (.ref D) d p.2 ∧ (∃ fs, p.2.data = .fields fs) ∧ (∀ dd, d = some dd → ∃ fs, H dd = some (.xd fs)) ∧
  ∀ H', Adv [] H H' → Q (.str nm) H'
theorem ok_law_named (A : All K mg w) (Z : Exs K mg) {nm : Str} (N : NF Z nm) (j : Nat) (hj : allNames[j]? = some nm) (hc : ((allBs nm).countP fun z => eqV z (V.bl true)) = 1) (hjt : (allBs nm)[j]? = some (V.bl true)) (hjf : ∀ m, m < j → ∀ z, (allBs nm)[m]? = some z → eqV z (V.bl true) = false) :
    FnP P w K mg base 1 A.law_named.f A.law_named.fd ["error"] (spNamed (Z.cA nm) nm) := by
  refine okP A.law_named.F sc_law_named (fun p vs H Q E h => ?_) (fun cdv Ar outer s H vs Q E p hr h => ?_)
  · obtain ⟨d, rfl, _⟩ := h
    rfl
  · obtain ⟨d, rfl, hz, hf, hd, q⟩ := h
    have hdA : ∀ {H'}, Adv [] H H' → ∀ dd, d = some dd → ∃ fs, H' dd = some (.xd fs) := fun a dd e => by
      obtain ⟨fs, h⟩ := hd dd e
      exact ⟨fs, a _ _ (by simp) h⟩
    refine ⟨_, (pss_cons (ps_set (i := 1) sc_law_named.nd rfl (Or.inl rfl) (pe_m1 PySem.F.slot_str_split PySem.F.type_str_split mt_split pe_str pe_str))
  (pss_cons (ps_set (i := 2) sc_law_named.nd rfl (Or.inl rfl) (pe_lst (pa_cons (pe_callB (call_isP N.eD hz hf (List.mem_singleton.mpr rfl)) (by rfl) A.T.isinstance (by decide +kernel) (pa_cons (pv 0) (pa_cons (pe_glob (v := .ref (Z.cA "BadLogic")) rfl (Z.mA "BadLogic" (by decide)) rfl) pa_nil))) (pa_cons (pe_callB (call_isP N.eD hz hf (List.mem_singleton.mpr rfl)) (by rfl) A.T.isinstance (by decide +kernel) (pa_cons (pv 0) (pa_cons (pe_glob (v := .ref (Z.cA "BadSheet")) rfl (Z.mA "BadSheet" (by decide)) rfl) pa_nil))) (pa_cons (pe_callB (call_isP N.eD hz hf (List.mem_singleton.mpr rfl)) (by rfl) A.T.isinstance (by decide +kernel) (pa_cons (pv 0) (pa_cons (pe_glob (v := .ref (Z.cA "BadClaim")) rfl (Z.mA "BadClaim" (by decide)) rfl) pa_nil))) (pa_cons (pe_callB (call_isP N.eD hz hf (List.mem_singleton.mpr rfl)) (by rfl) A.T.isinstance (by decide +kernel) (pa_cons (pv 0) (pa_cons (pe_glob (v := .ref (Z.cA "BadModel")) rfl (Z.mA "BadModel" (by decide)) rfl) pa_nil))) pa_nil))))))
  (pss_cons (ps_set (i := 2) sc_law_named.nd rfl (Or.inl rfl) (pe_op op_cat (pv 2) (pe_lst (pa_cons (pe_callB (call_isP N.eD hz hf (List.mem_singleton.mpr rfl)) (by rfl) A.T.isinstance (by decide +kernel) (pa_cons (pv 0) (pa_cons (pe_glob (v := .ref (Z.cA "BadPaper")) rfl (Z.mA "BadPaper" (by decide)) rfl) pa_nil))) (pa_cons (pe_callB (call_isP N.eD hz hf (List.mem_singleton.mpr rfl)) (by rfl) A.T.isinstance (by decide +kernel) (pa_cons (pv 0) (pa_cons (pe_glob (v := .ref (Z.cA "BadTerm")) rfl (Z.mA "BadTerm" (by decide)) rfl) pa_nil))) (pa_cons (pe_callB (call_isP N.eD hz hf (List.mem_singleton.mpr rfl)) (by rfl) A.T.isinstance (by decide +kernel) (pa_cons (pv 0) (pa_cons (pe_glob (v := .ref (Z.cA "BadEdit")) rfl (Z.mA "BadEdit" (by decide)) rfl) pa_nil))) (pa_cons (pe_callB (call_isP N.eD hz hf (List.mem_singleton.mpr rfl)) (by rfl) A.T.isinstance (by decide +kernel) (pa_cons (pv 0) (pa_cons (pe_glob (v := .ref (Z.cA "BadValue")) rfl (Z.mA "BadValue" (by decide)) rfl) pa_nil))) pa_nil)))))))
  (pss_cons (ps_set (i := 2) sc_law_named.nd rfl (Or.inl rfl) (pe_op op_cat (pv 2) (pe_lst (pa_cons (pe_callB (call_isP N.eD hz hf (List.mem_singleton.mpr rfl)) (by rfl) A.T.isinstance (by decide +kernel) (pa_cons (pv 0) (pa_cons (pe_glob (v := .ref (Z.cA "BadText")) rfl (Z.mA "BadText" (by decide)) rfl) pa_nil))) (pa_cons (pe_callB (call_isP N.eD hz hf (List.mem_singleton.mpr rfl)) (by rfl) A.T.isinstance (by decide +kernel) (pa_cons (pv 0) (pa_cons (pe_glob (v := .ref (Z.cA "BadSize")) rfl (Z.mA "BadSize" (by decide)) rfl) pa_nil))) (pa_cons (pe_callB (call_isP N.eD hz hf (List.mem_singleton.mpr rfl)) (by rfl) A.T.isinstance (by decide +kernel) (pa_cons (pv 0) (pa_cons (pe_glob (v := .ref (Z.cA "TooMany")) rfl (Z.mA "TooMany" (by decide)) rfl) pa_nil))) (pa_cons (pe_callB (call_isP N.eD hz hf (List.mem_singleton.mpr rfl)) (by rfl) A.T.isinstance (by decide +kernel) (pa_cons (pv 0) (pa_cons (pe_glob (v := .ref (Z.cA "NotBoxed")) rfl (Z.mA "NotBoxed" (by decide)) rfl) pa_nil))) pa_nil)))))))
  (pss_cons (ps_set (i := 2) sc_law_named.nd rfl (Or.inl rfl) (pe_op op_cat (pv 2) (pe_lst (pa_cons (pe_callB (call_isP N.eD hz hf (List.mem_singleton.mpr rfl)) (by rfl) A.T.isinstance (by decide +kernel) (pa_cons (pv 0) (pa_cons (pe_glob (v := .ref (Z.cA "NotProved")) rfl (Z.mA "NotProved" (by decide)) rfl) pa_nil))) (pa_cons (pe_callB (call_isP N.eD hz hf (List.mem_singleton.mpr rfl)) (by rfl) A.T.isinstance (by decide +kernel) (pa_cons (pv 0) (pa_cons (pe_glob (v := .ref (Z.cA "NotThere")) rfl (Z.mA "NotThere" (by decide)) rfl) pa_nil))) (pa_cons (pe_callB (call_isP N.eD hz hf (List.mem_singleton.mpr rfl)) (by rfl) A.T.isinstance (by decide +kernel) (pa_cons (pv 0) (pa_cons (pe_glob (v := .ref (Z.cA "NothingToUndo")) rfl (Z.mA "NothingToUndo" (by decide)) rfl) pa_nil))) (pa_cons (pe_callB (call_isP N.eD hz hf (List.mem_singleton.mpr rfl)) (by rfl) A.T.isinstance (by decide +kernel) (pa_cons (pv 0) (pa_cons (pe_glob (v := .ref (Z.cA "NothingToRedo")) rfl (Z.mA "NothingToRedo" (by decide)) rfl) pa_nil))) pa_nil)))))))
  (pss_cons (ps_if (PW.pt (pw_or (pt_cmpR op_ne (pe_bm PySem.F.plainAttrs_list PySem.F.slot_list_count PySem.F.type_list_count mt_countF (pv 2) (pa_cons pe_bl pa_nil)) pe_int (nomark _)) (pw_or (pt_not (pt_val (pe_callB (call_isP N.eD hz hf (List.mem_singleton.mpr rfl)) (by rfl) A.T.isinstance (by decide +kernel) (pa_cons (pv 0) (pa_cons (pe_glob (v := .ref Z.CE) rfl Z.mC rfl) pa_nil))))) (pw_or1 (pt_not (pt_val (pe_callB (call_isP N.eD hz hf (List.mem_singleton.mpr rfl)) (by rfl) A.T.isinstance (by decide +kernel) (pa_cons (pv 0) (pa_cons (pe_bltn (v := .ty "ValueError") (by rfl) A.T.ValueError (by decide +kernel) rfl) pa_nil)))))))))
    (pss_one (ps_ret pe_str))
    pss_nil)
  (pss_one (ps_ret (pe_ix ix_list (pv 1) (pe_bm PySem.F.plainAttrs_list PySem.F.slot_list_index PySem.F.type_list_index mt_index (pv 2) (pa_cons pe_bl pa_nil)) (fun _ _ => rfl)))))))))), ?_⟩
    refine ⟨⟨_, rfl⟩, _, _, rfl, rfl, rfl, by show _ ≤ sizeLine; decide +kernel, ?_⟩
    intro p0 np0
    have a0 : Adv [] H (upd H p0 (.lst (allNames.map V.str))) := Adv.new np0
    have es : Txt.split "BadLogic BadSheet BadClaim BadModel BadPaper BadTerm BadEdit BadValue BadText BadSize TooMany NotBoxed NotProved NotThere NothingToUndo NothingToRedo" " " = allNames := by decide +kernel
    rw [es]
    refine ⟨_, rfl, _, _, _, rfl, fun u h => h, hdA a0, (N.k "BadLogic" (by decide)), _, rfl, _, _, _, rfl, fun u h => h, hdA a0, (N.k "BadSheet" (by decide)), _, rfl, _, _, _, rfl, fun u h => h, hdA a0, (N.k "BadClaim" (by decide)), _, rfl, _, _, _, rfl, fun u h => h, hdA a0, (N.k "BadModel" (by decide)), by show 4 ≤ sizeLine; decide, fun p1 np1 => ?_⟩
    have a1 : Adv [] H (upd (upd H p0 (.lst (allNames.map V.str))) p1 (.lst [.bl (decide (("BadLogic" : Str) = nm)), .bl (decide (("BadSheet" : Str) = nm)), .bl (decide (("BadClaim" : Str) = nm)), .bl (decide (("BadModel" : Str) = nm))])) := a0.newT np1
    have b1 : Adv [] (upd H p0 (.lst (allNames.map V.str))) (upd (upd H p0 (.lst (allNames.map V.str))) p1 (.lst [.bl (decide (("BadLogic" : Str) = nm)), .bl (decide (("BadSheet" : Str) = nm)), .bl (decide (("BadClaim" : Str) = nm)), .bl (decide (("BadModel" : Str) = nm))])) := Adv.new np1
    refine ⟨_, rfl, _, rfl, _, _, _, rfl, fun u h => h, hdA a1, (N.k "BadPaper" (by decide)), _, rfl, _, _, _, rfl, fun u h => h, hdA a1, (N.k "BadTerm" (by decide)), _, rfl, _, _, _, rfl, fun u h => h, hdA a1, (N.k "BadEdit" (by decide)), _, rfl, _, _, _, rfl, fun u h => h, hdA a1, (N.k "BadValue" (by decide)), by show 4 ≤ sizeLine; decide, ?_⟩
    intro p2 np2
    have a2 := a1.newT (o := .lst [.bl (decide (("BadPaper" : Str) = nm)), .bl (decide (("BadTerm" : Str) = nm)), .bl (decide (("BadEdit" : Str) = nm)), .bl (decide (("BadValue" : Str) = nm))]) np2
    have b2 := b1.newT (o := .lst [.bl (decide (("BadPaper" : Str) = nm)), .bl (decide (("BadTerm" : Str) = nm)), .bl (decide (("BadEdit" : Str) = nm)), .bl (decide (("BadValue" : Str) = nm))]) np2
    refine ⟨p1, p2, [.bl (decide (("BadLogic" : Str) = nm)), .bl (decide (("BadSheet" : Str) = nm)), .bl (decide (("BadClaim" : Str) = nm)), .bl (decide (("BadModel" : Str) = nm))], [.bl (decide (("BadPaper" : Str) = nm)), .bl (decide (("BadTerm" : Str) = nm)), .bl (decide (("BadEdit" : Str) = nm)), .bl (decide (("BadValue" : Str) = nm))], rfl, rfl, ?_, upd_same, by show 8 ≤ sizeLine; decide, ?_⟩
    · rw [upd_ne (ne_of_none (o := .lst [.bl (decide (("BadLogic" : Str) = nm)), .bl (decide (("BadSheet" : Str) = nm)), .bl (decide (("BadClaim" : Str) = nm)), .bl (decide (("BadModel" : Str) = nm))]) upd_same np2)]; exact upd_same
    intro p3 np3
    have a3 := a2.newT (o := .lst [.bl (decide (("BadLogic" : Str) = nm)), .bl (decide (("BadSheet" : Str) = nm)), .bl (decide (("BadClaim" : Str) = nm)), .bl (decide (("BadModel" : Str) = nm)), .bl (decide (("BadPaper" : Str) = nm)), .bl (decide (("BadTerm" : Str) = nm)), .bl (decide (("BadEdit" : Str) = nm)), .bl (decide (("BadValue" : Str) = nm))]) np3
    have b3 := b2.newT (o := .lst [.bl (decide (("BadLogic" : Str) = nm)), .bl (decide (("BadSheet" : Str) = nm)), .bl (decide (("BadClaim" : Str) = nm)), .bl (decide (("BadModel" : Str) = nm)), .bl (decide (("BadPaper" : Str) = nm)), .bl (decide (("BadTerm" : Str) = nm)), .bl (decide (("BadEdit" : Str) = nm)), .bl (decide (("BadValue" : Str) = nm))]) np3
    refine ⟨_, rfl, _, rfl, _, _, _, rfl, fun u h => h, hdA a3, (N.k "BadText" (by decide)), _, rfl, _, _, _, rfl, fun u h => h, hdA a3, (N.k "BadSize" (by decide)), _, rfl, _, _, _, rfl, fun u h => h, hdA a3, (N.k "TooMany" (by decide)), _, rfl, _, _, _, rfl, fun u h => h, hdA a3, (N.k "NotBoxed" (by decide)), by show 4 ≤ sizeLine; decide, ?_⟩
    intro p4 np4
    have a4 := a3.newT (o := .lst [.bl (decide (("BadText" : Str) = nm)), .bl (decide (("BadSize" : Str) = nm)), .bl (decide (("TooMany" : Str) = nm)), .bl (decide (("NotBoxed" : Str) = nm))]) np4
    have b4 := b3.newT (o := .lst [.bl (decide (("BadText" : Str) = nm)), .bl (decide (("BadSize" : Str) = nm)), .bl (decide (("TooMany" : Str) = nm)), .bl (decide (("NotBoxed" : Str) = nm))]) np4
    refine ⟨p3, p4, [.bl (decide (("BadLogic" : Str) = nm)), .bl (decide (("BadSheet" : Str) = nm)), .bl (decide (("BadClaim" : Str) = nm)), .bl (decide (("BadModel" : Str) = nm)), .bl (decide (("BadPaper" : Str) = nm)), .bl (decide (("BadTerm" : Str) = nm)), .bl (decide (("BadEdit" : Str) = nm)), .bl (decide (("BadValue" : Str) = nm))], [.bl (decide (("BadText" : Str) = nm)), .bl (decide (("BadSize" : Str) = nm)), .bl (decide (("TooMany" : Str) = nm)), .bl (decide (("NotBoxed" : Str) = nm))], rfl, rfl, ?_, upd_same, by show 12 ≤ sizeLine; decide, ?_⟩
    · rw [upd_ne (ne_of_none (o := .lst [.bl (decide (("BadLogic" : Str) = nm)), .bl (decide (("BadSheet" : Str) = nm)), .bl (decide (("BadClaim" : Str) = nm)), .bl (decide (("BadModel" : Str) = nm)), .bl (decide (("BadPaper" : Str) = nm)), .bl (decide (("BadTerm" : Str) = nm)), .bl (decide (("BadEdit" : Str) = nm)), .bl (decide (("BadValue" : Str) = nm))]) upd_same np4)]; exact upd_same
    intro p5 np5
    have a5 := a4.newT (o := .lst [.bl (decide (("BadLogic" : Str) = nm)), .bl (decide (("BadSheet" : Str) = nm)), .bl (decide (("BadClaim" : Str) = nm)), .bl (decide (("BadModel" : Str) = nm)), .bl (decide (("BadPaper" : Str) = nm)), .bl (decide (("BadTerm" : Str) = nm)), .bl (decide (("BadEdit" : Str) = nm)), .bl (decide (("BadValue" : Str) = nm)), .bl (decide (("BadText" : Str) = nm)), .bl (decide (("BadSize" : Str) = nm)), .bl (decide (("TooMany" : Str) = nm)), .bl (decide (("NotBoxed" : Str) = nm))]) np5
    have b5 := b4.newT (o := .lst [.bl (decide (("BadLogic" : Str) = nm)), .bl (decide (("BadSheet" : Str) = nm)), .bl (decide (("BadClaim" : Str) = nm)), .bl (decide (("BadModel" : Str) = nm)), .bl (decide (("BadPaper" : Str) = nm)), .bl (decide (("BadTerm" : Str) = nm)), .bl (decide (("BadEdit" : Str) = nm)), .bl (decide (("BadValue" : Str) = nm)), .bl (decide (("BadText" : Str) = nm)), .bl (decide (("BadSize" : Str) = nm)), .bl (decide (("TooMany" : Str) = nm)), .bl (decide (("NotBoxed" : Str) = nm))]) np5
    refine ⟨_, rfl, _, rfl, _, _, _, rfl, fun u h => h, hdA a5, (N.k "NotProved" (by decide)), _, rfl, _, _, _, rfl, fun u h => h, hdA a5, (N.k "NotThere" (by decide)), _, rfl, _, _, _, rfl, fun u h => h, hdA a5, (N.k "NothingToUndo" (by decide)), _, rfl, _, _, _, rfl, fun u h => h, hdA a5, (N.k "NothingToRedo" (by decide)), by show 4 ≤ sizeLine; decide, ?_⟩
    intro p6 np6
    have a6 := a5.newT (o := .lst [.bl (decide (("NotProved" : Str) = nm)), .bl (decide (("NotThere" : Str) = nm)), .bl (decide (("NothingToUndo" : Str) = nm)), .bl (decide (("NothingToRedo" : Str) = nm))]) np6
    have b6 := b5.newT (o := .lst [.bl (decide (("NotProved" : Str) = nm)), .bl (decide (("NotThere" : Str) = nm)), .bl (decide (("NothingToUndo" : Str) = nm)), .bl (decide (("NothingToRedo" : Str) = nm))]) np6
    refine ⟨p5, p6, [.bl (decide (("BadLogic" : Str) = nm)), .bl (decide (("BadSheet" : Str) = nm)), .bl (decide (("BadClaim" : Str) = nm)), .bl (decide (("BadModel" : Str) = nm)), .bl (decide (("BadPaper" : Str) = nm)), .bl (decide (("BadTerm" : Str) = nm)), .bl (decide (("BadEdit" : Str) = nm)), .bl (decide (("BadValue" : Str) = nm)), .bl (decide (("BadText" : Str) = nm)), .bl (decide (("BadSize" : Str) = nm)), .bl (decide (("TooMany" : Str) = nm)), .bl (decide (("NotBoxed" : Str) = nm))], [.bl (decide (("NotProved" : Str) = nm)), .bl (decide (("NotThere" : Str) = nm)), .bl (decide (("NothingToUndo" : Str) = nm)), .bl (decide (("NothingToRedo" : Str) = nm))], rfl, rfl, ?_, upd_same, by show 16 ≤ sizeLine; decide, ?_⟩
    · rw [upd_ne (ne_of_none (o := .lst [.bl (decide (("BadLogic" : Str) = nm)), .bl (decide (("BadSheet" : Str) = nm)), .bl (decide (("BadClaim" : Str) = nm)), .bl (decide (("BadModel" : Str) = nm)), .bl (decide (("BadPaper" : Str) = nm)), .bl (decide (("BadTerm" : Str) = nm)), .bl (decide (("BadEdit" : Str) = nm)), .bl (decide (("BadValue" : Str) = nm)), .bl (decide (("BadText" : Str) = nm)), .bl (decide (("BadSize" : Str) = nm)), .bl (decide (("TooMany" : Str) = nm)), .bl (decide (("NotBoxed" : Str) = nm))]) upd_same np6)]; exact upd_same
    intro p7 np7
    have a7 := a6.newT (o := .lst (allBs nm)) np7
    have b7 := b6.newT (o := .lst (allBs nm)) np7
    have h0 := b7 p0 _ (by simp) upd_same
    have hfl : (allBs nm).all flatV = true := rfl
    refine ⟨_, rfl, .inl ⟨rfl, _, SqL.of upd_same⟩, p7, allBs nm, .bl true, rfl, rfl, SqL.of upd_same, rfl, hfl, rfl, _, rfl, iteN (by rw [hc]; rfl) ?_⟩
    refine ⟨_, rfl, _, _, _, rfl, fun u h => h, hdA a7, N.kC, _, rfl, iteN (by decide) ?_⟩
    refine ⟨_, rfl, _, _, _, rfl, fun u h => h, hdA a7, N.kV, _, rfl, iteN (by decide) ?_⟩
    refine ⟨_, rfl, _, rfl, .inl ⟨rfl, _, SqL.of upd_same⟩, p7, allBs nm, .bl true, j, .bl true, rfl, rfl, SqL.of upd_same, rfl, hfl, hjt, rfl, fun m z hm hz => hjf m hm z hz, p0, _, _, _, rfl, rfl, SqL.of h0, atI_nat (j := j) (by rw [List.getElem?_map, hj]; rfl), ?_⟩
    exact q _ a7
/-- it is called in an except suite -/
def tHeld (D : Addr) (nm : Str) (a : Addr) (cls : Value) (d : Option Addr) (i : Nat) : TE := fun σ H Q => tVar i σ H fun x H1 => x = .ref a ∧ cls = .ref D ∧ (∀ dd, d = some dd → ∃ fs, H1 dd = some (.xd fs)) ∧ ∀ H', Adv [] H1 H' → Q (.str nm) H'
structure Nam (K : PySem.W.Frag) (mg : Str → Option Value) (Z : Exs K mg) (nm : Str) : Prop where
  N : NF Z nm
  ex : ∃ j : Nat, allNames[j]? = some nm ∧ ((allBs nm).countP fun z => eqV z (V.bl true)) = 1 ∧ (allBs nm)[j]? = some (V.bl true) ∧ ∀ m : Nat, m < j → ∀ z, (allBs nm)[m]? = some z → eqV z (V.bl true) = false
theorem takes_no {X : Cx} : L2N.Takes X (fun _ _ _ _ => False) := fun u s' ⟨_, _, _, _, _, _, _, _, _, _, _, _, _, _, _, _, w⟩ => w.elim
/-- of several classes: the one that the held error is of -/
def tHeldA (Z : Exs K mg) (a : Addr) (cls : Value) (d : Option Addr) (i : Nat) : TE := fun σ H Q => tVar i σ H fun x H1 => x = .ref a ∧ ∃ nm, Nam K mg Z nm ∧ cls = .ref (Z.cA nm) ∧ (∀ dd, d = some dd → ∃ fs, H1 dd = some (.xd fs)) ∧ ∀ H', Adv [] H1 H' → Q (.str nm) H'
theorem pe_named {X : Cx} (A : All X.K X.mg X.w) (Z : Exs X.K X.mg) (hr : Room 1 X.A) (hg : Gl X "_law_named") {a : Addr} {oe : Obj} {cls : Value} {d : Option Addr} {pn : List (Addr × Obj)} (hz : Zc cls d oe) (hf : ∃ vs, oe.data = .fields vs)
    {y : Str} {i : Nat} {q pos ep : Pos} (he : PE (X.suite a ((a, oe) :: pn)) (.Name y ep) (tVar i)) :
    PE (X.suite a ((a, oe) :: pn)) (.Call (.Name "_law_named" q) [.Name y ep] [] pos) (tHeldA Z a cls d i) := by
  refine ⟨fun pins s σ H Q I h => ?_⟩
  obtain ⟨x, hx, ex, nm, N, ec, hd, q⟩ := h
  obtain ⟨j, h1, h2, h3, h4⟩ := N.ex
  refine (pe_callP (X := X.suite a ((a, oe) :: pn)) (p := (a, oe)) (E := E0) (ok_law_named (P := X.prog) (base := X.base) A Z N.N j h1 h2 h3 h4) ⟨hr.dp, hr.un⟩ List.mem_cons_self hg A.law_named.m A.law_named.F.kp A.law_named.b (pa_cons he pa_nil)).run pins s σ H Q I ?_
  exact ⟨x, hx, d, by rw [ex], by rw [← ec]; exact hz, hf, hd, q⟩
end
end K59

set_option Elab.async false
set_option linter.all false
set_option maxRecDepth 100000
set_option maxHeartbeats 400000
namespace K59
open PySem PySem.Spec PyProof.Rows L2 LL
local macro_rules | `(tactic| walk_at "ne") => `(tactic| first | assumption | (apply Ne.symm; assumption) | exact ne_of_none (by walk_at "hp") (by assumption) | exact (ne_of_none (by walk_at "hp") (by assumption)).symm)
local macro_rules | `(tactic| walk_at "nm") => `(tactic| first | assumption | exact notin0 | exact notin1 (by walk_at "ne") | exact notin2 (by walk_at "ne") (by walk_at "ne"))
local macro_rules | `(tactic| walk_at "hp") => `(tactic| first | assumption | exact upd_same | (refine Eq.trans (upd_ne ?ne) ?hh; (case hh => walk_at "hp"); (case ne => walk_at "ne")) | (refine Adv.get' (by assumption) ?hh ?nn; (case hh => walk_at "hp"); (case nn => walk_at "nm")))
local macro_rules | `(tactic| walk_at "tp") => `(tactic| first | assumption | exact Tp.adv (by walk_at "tp") (by assumption) | exact Tp.adv (by walk_at "tp") (Adv.nil (by assumption)))
local macro_rules | `(tactic| walk_at "sq") => `(tactic| first | assumption | exact Tp.sq (by assumption) (by walk_at "tp") | exact SqT.of (by walk_at "hp"))
local macro_rules | `(tactic| walk_at "at") => `(tactic| first | exact atI_nat (j := 0) rfl | exact atI_nat (j := 1) rfl | exact atI_nat (j := 2) rfl | exact atI_nat (j := 3) rfl | exact atI_nat (by assumption) | (rw [Int.zero_add]; exact atI_nat (by assumption)))
local macro_rules | `(tactic| walk_at "bb") => `(tactic| first | assumption | decide | exact rfl)
local macro_rules | `(tactic| walk_at "rd1") => `(tactic| first
  | with_reducible refine rd_c ?_
  | ((with_reducible refine' rd_var ?rh ?_); (case rh => exact rfl))
  | with_reducible refine rd_op ?_
  | with_reducible refine rd_seq ?_
  | with_reducible refine rd_asg ?_
  | with_reducible refine rd_gname ?_
  | with_reducible refine rd_ifS ?_
  | with_reducible refine rd_test ?_
  | with_reducible refine rd_tB ?_
  | with_reducible refine rd_blP ?_
  | ((with_reducible refine' iteY ?rh ?_); (case rh => walk_at "bb"))
  | ((with_reducible refine' iteN ?rh ?_); (case rh => walk_at "bb"))
  | with_reducible refine rd_ret ?_
  | with_reducible refine rd_nx ?_
  | ((with_reducible refine' rd_eq ?rh ?_); (case rh => exact rfl))
  | ((with_reducible refine' rd_ne ?rh ?_); (case rh => exact rfl))
  | with_reducible refine rd_add ?_
  | with_reducible refine rd_sub ?_
  | with_reducible refine rd_i0 ?_
  | with_reducible refine rd_and ?_
  | with_reducible refine rd_or ?_
  | with_reducible refine rd_not ?_
  | with_reducible refine rd_andV ?_
  | with_reducible refine rd_orV ?_
  | with_reducible refine rd_notV ?_
  | with_reducible refine rd_ifE ?_
  | with_reducible refine rd_isN ?_
  | with_reducible refine rd_notN ?_
  | with_reducible refine rd_cons ?_
  | with_reducible refine rd_nil ?_
  | with_reducible refine rd_tup ?_
  | with_reducible refine rd_lst ?_
  | with_reducible refine rd_call ?_
  | with_reducible refine rd_cb ?_
  | with_reducible refine rd_meth ?_
  | with_reducible refine rd_callS ?_
  | with_reducible refine rd_make ?_
  | with_reducible refine rd_rfl ?_
  | with_reducible refine rd_fld ?_
  | with_reducible refine rd_drop ?_
  | with_reducible refine rd_gsub ?_
  | with_reducible refine rd_gcons ?_
  | with_reducible refine rd_gnil ?_
  | with_reducible refine rd_par ?_
  | with_reducible refine rd_two ?_
  | with_reducible refine rd_part ?_
  | with_reducible refine rd_nopart ?_
  | with_reducible refine rd_int ?_
  | with_reducible refine rd_sl ?_
  | with_reducible refine rd_bm ?_
  | with_reducible refine rd_bm0 ?_
  | with_reducible refine rd_dgetT ?_
  | with_reducible refine rd_din ?_
  | with_reducible refine rd_dnin ?_
  | with_reducible refine rd_un ?_
  | ((with_reducible refine' rd_ixL ?rh ?re ?_); (case rh => walk_at "hp"); (case re => walk_at "at"))
  | ((with_reducible refine' rd_ixT ?rh ?re ?_); (case rh => walk_at "sq"); (case re => walk_at "at"))
  | ((with_reducible refine' rd_lenT ?rh ?_); (case rh => walk_at "sq"))
  | ((with_reducible refine' rd_tyL ?rh ?_); (case rh => walk_at "hp"))
  | ((with_reducible refine' rd_len ?rh ?_); (case rh => walk_at "hp"))
  | with_reducible refine rd_retN ?_)
local macro_rules | `(tactic| walk_at "rd") => `(tactic| repeat walk_at "rd1")
section
variable [KW]
variable {P : Program} {w : World} {K : PySem.W.Frag} {mg : Str → Option Value} {base : Heap}
/-! ### read_row -/
structure RowRP (cS cV : Addr) (wd : W3) (v1 v2 : V) (H : Hp) (Q : VK) (E : XK) : Prop where
  ex : ∃ (M : List Addr) (d r : PyData), (∀ b ∈ M, H b ≠ none) ∧ Is M H d v1 ∧ Is M H r v2 ∧ (∀ ds, d = .list ds → ds.length ≤ 1000000) ∧
    (∀ i, wrongD 5000 wd.boxes d = some i → ∀ dd H', Adv [] H H' → H dd = none → H' dd = some (.xd [("row", .int i)]) → E (.ref cS) (some dd) H') ∧
    (wrongD 5000 wd.boxes d = none → isNum 0 ((lenD d : Int) - 1) r = false → ∀ dd H', Adv [] H H' → H dd = none → H' dd = some (.xd [("name", .str "row")]) → E (.ref cV) (some dd) H') ∧
    ∀ ns row, wrongD 5000 wd.boxes d = none → d = .list (ns.map Nd.data) → okSheet wd.boxes ns → ns.length ≤ 5000 → r = .int (row : Nat) → row < ns.length → ∀ t L rs H', Adv [] H H' → H' t = some (.tup [.ref L, .int ((readA wd ns row).2 row : Nat)]) → H' L = some (.lst rs) → IsDs (L :: M) H' ((readA wd ns row).1.map Nd.data) rs → H L = none → H t = none → Q (.ref t) H'
def spReadRow (cS cV : Addr) : Sp := fun vs H Q E => ∃ v1 v2 wd, vs = [v1, v2, .str (W3.str wd), .bl (W3.boxes wd)] ∧ RowRP cS cV wd v1 v2 H Q E
theorem ok_read_row (A : All K mg w) (G : Grw K mg) (R : Rds A) (Z : Exs K mg) (Z1 : Er_BadSheet Z) (Z2 : Er_BadValue Z) : FnOk P w K mg base (L2N.CX P w) 6 A.read_row.f A.read_row.fd ["sheet", "row", "word", "boxes"] (spReadRow (Z.cA "BadSheet") (Z.cA "BadValue")) := by
  refine okXN A.read_row.F sc_read_row (fun vs H Q E h => ?_) (fun cdv Ar outer s H vs Q E hr h => ?_)
  · obtain ⟨v1, v2, wd, rfl, _⟩ := h
    rfl
  · obtain ⟨v1, v2, wd, rfl, X⟩ := h
    obtain ⟨M, d, r, hal, h1, h2, hz, q1, q2, q3⟩ := X.ex
    obtain ⟨tM, mM⟩ := A.C.most
    refine ⟨_, (pss_cons (ps_set (i := 4) sc_read_row.nd rfl (Or.inl rfl) (pe_call (ok_wrong_row A) (hr.mono (by omega)) rfl A.wrong_row.m A.wrong_row.F.kp A.wrong_row.b .nil pass0 (pa_cons (pv 0) (pa_cons (pe_glob (v := .int 5000) rfl mM ⟨_, rfl⟩) (pa_cons (pv 3) pa_nil)))))
  (pss_cons (ps_if (pt_cmpR op_notN (pv 4) pe_non (nomark _))
    (pss_one (L2N.ps_raise rfl (L2N.takes_of rfl rfl rfl rfl) (pmk_initN Z1.O Z1.I Z1.T (ok_BadSheet Z1) (hr.mono (by omega)) Z1.b .nil pass0 rfl (Z.mA "BadSheet" (by decide)) (pa_cons (pv 4) pa_nil))))
    pss_nil)
  (pss_cons (ps_if (pt_not (pt_val (pe_call (ok_is_between A) (hr.mono (by omega)) rfl A.is_between.m A.is_between.F.kp A.is_between.b .nil pass0 (pa_cons (pv 1) (pa_cons pe_int (pa_cons (pe_op op_sub (pe_callB call_len_seq (by rfl) A.T.len PySem.boot_len (pa_cons (pv 0) pa_nil)) pe_int) pa_nil))))))
    (pss_one (L2N.ps_raise rfl (L2N.takes_of rfl rfl rfl rfl) (pmk_initN Z2.O Z2.I Z2.T (ok_BadValue Z2) (hr.mono (by omega)) Z2.b .nil pass0 rfl (Z.mA "BadValue" (by decide)) (pa_cons pe_str pa_nil))))
    pss_nil)
  (pss_cons (ps_set (i := 5) sc_read_row.nd rfl (Or.inl rfl) (pe_make G.mkc (ok_g_init A G) (hr.mono (by omega)) rfl G.m G.bI .nil pass0 (pa_cons (pv 0) pa_nil)))
  (pss_cons (ps_set (i := 6) sc_read_row.nd rfl (Or.inl rfl) (pe_call (ok_grown A G R) (hr.mono (by omega)) rfl A.grown.m A.grown.F.kp A.grown.b .nil pass0 (pa_cons (pv 5) (pa_cons (pe_lst (pa_cons (pv 1) pa_nil)) (pa_cons (pv 2) pa_nil)))))
  (pss_one (ps_ret (pe_tup (pa_cons (pe_fld (pv 5) rfl) (pa_cons (pe_dget (hu_of hr) (pv 6) (pv 1) (fun _ _ => rfl)) pa_nil)))))))))), ?_⟩
    walk_at "rd"
    refine ⟨v1, d, 5000, wd.boxes, rfl, h1.less (by simp), by decide, hz, fun H1 a1 => ?_⟩
    have al1 : ∀ b ∈ M, H1 b ≠ none := alloc_adv hal a1 (by simp)
    walk_at "rd"
    cases e : wrongD 5000 wd.boxes d with
    | some i =>
      refine iteY (by simp [resV]) ?_
      refine ⟨_, rfl, Nat.le_of_ble_eq_true rfl, fun a na => ⟨a, .int i, rfl, upd_same, fun dx n1 n2 => ⟨rfl, dx, [("row", .int i)], upd_same, ?_, ?_, ?_⟩⟩⟩
      · rw [upd_ne n2, upd_same]
      · rw [upd_ne n2] at n1
        exact n1
      · have n1' : H1 dx = none := by rw [upd_ne n2] at n1; exact n1
        refine q1 i e dx _ (a1.trans fun b o hb eb => ?_) (a1.free (by simp) n1') upd_same
        have hba : b ≠ a := ne_of_none eb na
        have hbd : b ≠ dx := ne_of_none eb n1'
        rw [upd_ne hbd, del_ne hba, upd_ne hba, upd_ne hbd, upd_ne hba]
        exact eb
    | none =>
      obtain ⟨ns, rfl, ok, hl⟩ := wrongD_none (by decide) e
      refine iteN (by decide) ?_
      obtain ⟨sh, rs, rfl, _, hsh, rd⟩ := h1.lstE
      have hsh1 := a1.same _ _ hsh
      have hrl := rd.len
      rw [List.length_map] at hrl
      have el : lenD (.list (ns.map Nd.data)) = ns.length := by show (ns.map Nd.data).length = ns.length; rw [List.length_map]
      rw [el] at q2
      walk_at "rd"
      refine ⟨v2, r, 0, _, rfl, (h2.adv (Adv.nil a1)).less (by simp), ?_⟩
      rw [hrl]
      walk_at "rd"
      cases e2 : isNum 0 ((ns.length : Nat) - 1 : Int) r with
      | false =>
        refine iteY rfl ?_
        refine ⟨Nat.le_of_ble_eq_true rfl, fun a na => ⟨a, .str "row", rfl, upd_same, fun dx n1 n2 => ⟨rfl, dx, [("name", .str "row")], upd_same, ?_, ?_, ?_⟩⟩⟩
        · rw [upd_ne n2, upd_same]
        · rw [upd_ne n2] at n1
          exact n1
        · have n1' : H1 dx = none := by rw [upd_ne n2] at n1; exact n1
          refine q2 e e2 dx _ (a1.trans fun b o hb eb => ?_) (a1.free (by simp) n1') upd_same
          have hba : b ≠ a := ne_of_none eb na
          have hbd : b ≠ dx := ne_of_none eb n1'
          rw [upd_ne hbd, del_ne hba, upd_ne hba, upd_ne hbd, upd_ne hba]
          exact eb
      | true =>
        refine iteN rfl ?_
        obtain ⟨row, rfl, h3, h4⟩ := num_nat e2 (by decide)
        have hlt : row < ns.length := by omega
        cases h2.intE
        walk_at "rd"
        intro g dx ng ndx dg
        have aG : Adv [] H1 (upd (upd H1 dx (.own g)) g (.ins G.C dx [])) := (Adv.new ndx).newT (by rw [upd_ne dg.symm]; exact ng)
        refine ⟨⟨M, g, dx, sh, rs, ns, rfl, upd_same, aG.same _ _ hsh1, ((rd.adv (Adv.nil a1)).fresh ng).adv (Adv.nil aG), alloc_adv al1 aG (by simp), ok.1, by omega, fun b0 b1 H2 n0 n1 B hg a2 => ⟨rfl, ?_⟩⟩⟩
        walk_at "rd"
        refine ⟨by show 1 ≤ sizeLine; decide, fun pr npr => ?_⟩
        walk_at "rd"
        have ap : Adv [] H2 (upd H2 pr (.lst [.int row])) := Adv.new npr
        have gb : g ∉ b0 :: b1 :: M := fun z => by
          rcases List.mem_cons.mp z with z | z
          · rw [← z, upd_same] at n0; cases n0
          · rcases List.mem_cons.mp z with z | z
            · rw [← z, upd_same] at n1; cases n1
            · exact al1 g z ng
        refine ⟨⟨b0 :: b1 :: M, g, dx, b0, b1, pr, ns, [row], wd.boxes, wd, rfl, ap.same _ _ hg, gb, B.same ap, ok, by omega, upd_same, by simpa using hlt, by simp, fun dn H3 nd hdn B3 a3 hg3 => ?_⟩⟩
        walk_at "rd"
        refine rd_fldA hg3 G.cl G.nS (gfl_s _ _) ?_
        walk_at "rd"
        refine rd_dget (new_get hdn (below_row (by simp) hlt)) ?_
        walk_at "rd"
        refine ⟨by show 2 ≤ sizeLine; decide, fun t nt => ?_⟩
        walk_at "rd"
        obtain ⟨rs3, r03, rd3⟩ := B3.rows
        have at_ : Adv [] H3 (upd H3 t (.tup [.ref b0, .int ((readA wd ns row).2 row : Nat)])) := Adv.new nt
        have ag : Adv [g] H1 H2 := (Adv.nil aG).trans a2
        have a12 : Adv [] H1 H2 := ag.drop ng
        have n01 : H1 b0 = none := by
          have := aG.free (by simp) n0
          exact this
        have n11 : H1 b1 = none := aG.free (by simp) n1
        have a13 : Adv [] H1 H3 := by
          have z1 : Adv [b0, b1] H1 H3 := (Adv.nil (a12.trans ap)).trans a3
          exact (z1.drop n01).drop n11
        exact q3 ns row e rfl ok (by omega) rfl hlt t b0 rs3 _ ((a1.trans a13).trans at_) upd_same (at_.same _ _ r03) ((rd3.less (by simp +contextual)).adv (Adv.nil at_)) (a1.free (by simp) n01) ((a1.trans a13).free (by simp) nt)
/-! ### negative, boxed, doubled -/
def spRead3 (cS cV : Addr) (wd : W3) : Sp := fun vs H Q E => ∃ v1 v2, vs = [v1, v2] ∧ RowRP cS cV wd v1 v2 H Q E
theorem ok_negative (A : All K mg w) (G : Grw K mg) (R : Rds A) (Z : Exs K mg) (Z1 : Er_BadSheet Z) (Z2 : Er_BadValue Z) : FnOk P w K mg base (L2N.CX P w) 7 A.negative.f A.negative.fd ["sheet", "row"] (spRead3 (Z.cA "BadSheet") (Z.cA "BadValue") .neg) := by
  refine okXN A.negative.F sc_negative (fun vs H Q E h => ?_) (fun cdv Ar outer s H vs Q E hr h => ?_)
  · obtain ⟨v1, v2, rfl, _⟩ := h
    rfl
  · obtain ⟨v1, v2, rfl, X⟩ := h
    refine ⟨_, (pss_one (ps_ret (pe_callS (ok_read_row A G R Z Z1 Z2) (hr.mono (by omega)) rfl A.read_row.m A.read_row.F.kp A.read_row.b (L2N.passAt (L2N.takes_of rfl rfl rfl rfl)) (pa_cons (pv 0) (pa_cons (pv 1) (pa_cons pe_str (pa_cons pe_bl pa_nil))))))), ?_⟩
    exact ⟨_, rfl, _, rfl, v1, v2, .neg, rfl, X⟩
theorem ok_boxed (A : All K mg w) (G : Grw K mg) (R : Rds A) (Z : Exs K mg) (Z1 : Er_BadSheet Z) (Z2 : Er_BadValue Z) : FnOk P w K mg base (L2N.CX P w) 7 A.boxed.f A.boxed.fd ["sheet", "row"] (spRead3 (Z.cA "BadSheet") (Z.cA "BadValue") .box) := by
  refine okXN A.boxed.F sc_boxed (fun vs H Q E h => ?_) (fun cdv Ar outer s H vs Q E hr h => ?_)
  · obtain ⟨v1, v2, rfl, _⟩ := h
    rfl
  · obtain ⟨v1, v2, rfl, X⟩ := h
    refine ⟨_, (pss_one (ps_ret (pe_callS (ok_read_row A G R Z Z1 Z2) (hr.mono (by omega)) rfl A.read_row.m A.read_row.F.kp A.read_row.b (L2N.passAt (L2N.takes_of rfl rfl rfl rfl)) (pa_cons (pv 0) (pa_cons (pv 1) (pa_cons pe_str (pa_cons pe_bl pa_nil))))))), ?_⟩
    exact ⟨_, rfl, _, rfl, v1, v2, .box, rfl, X⟩
theorem ok_doubled (A : All K mg w) (G : Grw K mg) (R : Rds A) (Z : Exs K mg) (Z1 : Er_BadSheet Z) (Z2 : Er_BadValue Z) : FnOk P w K mg base (L2N.CX P w) 7 A.doubled.f A.doubled.fd ["sheet", "row"] (spRead3 (Z.cA "BadSheet") (Z.cA "BadValue") .dou) := by
  refine okXN A.doubled.F sc_doubled (fun vs H Q E h => ?_) (fun cdv Ar outer s H vs Q E hr h => ?_)
  · obtain ⟨v1, v2, rfl, _⟩ := h
    rfl
  · obtain ⟨v1, v2, rfl, X⟩ := h
    refine ⟨_, (pss_one (ps_ret (pe_callS (ok_read_row A G R Z Z1 Z2) (hr.mono (by omega)) rfl A.read_row.m A.read_row.F.kp A.read_row.b (L2N.passAt (L2N.takes_of rfl rfl rfl rfl)) (pa_cons (pv 0) (pa_cons (pv 1) (pa_cons pe_str (pa_cons pe_bl pa_nil))))))), ?_⟩
    exact ⟨_, rfl, _, rfl, v1, v2, .dou, rfl, X⟩
end
end K59

set_option Elab.async false
set_option linter.all false
set_option maxRecDepth 100000
set_option maxHeartbeats 400000
namespace K59
open PySem PySem.Spec PyProof.Rows L2 LL
local macro_rules | `(tactic| walk_at "ne") => `(tactic| first | assumption | (apply Ne.symm; assumption) | exact ne_of_none (by walk_at "hp") (by assumption) | exact (ne_of_none (by walk_at "hp") (by assumption)).symm)
local macro_rules | `(tactic| walk_at "nm") => `(tactic| first | assumption | exact notin0 | exact notin1 (by walk_at "ne") | exact notin2 (by walk_at "ne") (by walk_at "ne"))
local macro_rules | `(tactic| walk_at "hp") => `(tactic| first | assumption | exact upd_same | (refine Eq.trans (upd_ne ?ne) ?hh; (case hh => walk_at "hp"); (case ne => walk_at "ne")) | (refine Adv.get' (by assumption) ?hh ?nn; (case hh => walk_at "hp"); (case nn => walk_at "nm")))
local macro_rules | `(tactic| walk_at "tp") => `(tactic| first | assumption | exact Tp.adv (by walk_at "tp") (by assumption) | exact Tp.adv (by walk_at "tp") (Adv.nil (by assumption)))
local macro_rules | `(tactic| walk_at "sq") => `(tactic| first | assumption | exact Tp.sq (by assumption) (by walk_at "tp") | exact SqT.of (by walk_at "hp"))
local macro_rules | `(tactic| walk_at "at") => `(tactic| first | exact atI_nat (j := 0) rfl | exact atI_nat (j := 1) rfl | exact atI_nat (j := 2) rfl | exact atI_nat (j := 3) rfl | exact atI_nat (by assumption) | (rw [Int.zero_add]; exact atI_nat (by assumption)))
local macro_rules | `(tactic| walk_at "bb") => `(tactic| first | assumption | decide | exact rfl)
local macro_rules | `(tactic| walk_at "rd1") => `(tactic| first
  | with_reducible refine rd_c ?_
  | ((with_reducible refine' rd_var ?rh ?_); (case rh => exact rfl))
  | with_reducible refine rd_op ?_
  | with_reducible refine rd_seq ?_
  | with_reducible refine rd_asg ?_
  | with_reducible refine rd_gname ?_
  | with_reducible refine rd_ifS ?_
  | with_reducible refine rd_test ?_
  | with_reducible refine rd_tB ?_
  | with_reducible refine rd_blP ?_
  | ((with_reducible refine' iteY ?rh ?_); (case rh => walk_at "bb"))
  | ((with_reducible refine' iteN ?rh ?_); (case rh => walk_at "bb"))
  | with_reducible refine rd_ret ?_
  | with_reducible refine rd_nx ?_
  | ((with_reducible refine' rd_eq ?rh ?_); (case rh => exact rfl))
  | ((with_reducible refine' rd_ne ?rh ?_); (case rh => exact rfl))
  | with_reducible refine rd_add ?_
  | with_reducible refine rd_sub ?_
  | with_reducible refine rd_i0 ?_
  | with_reducible refine rd_and ?_
  | with_reducible refine rd_or ?_
  | with_reducible refine rd_not ?_
  | with_reducible refine rd_andV ?_
  | with_reducible refine rd_orV ?_
  | with_reducible refine rd_notV ?_
  | with_reducible refine rd_ifE ?_
  | with_reducible refine rd_isN ?_
  | with_reducible refine rd_notN ?_
  | with_reducible refine rd_cons ?_
  | with_reducible refine rd_nil ?_
  | with_reducible refine rd_tup ?_
  | with_reducible refine rd_lst ?_
  | with_reducible refine rd_call ?_
  | with_reducible refine rd_cb ?_
  | with_reducible refine rd_meth ?_
  | with_reducible refine rd_callS ?_
  | with_reducible refine rd_make ?_
  | with_reducible refine rd_rfl ?_
  | with_reducible refine rd_fld ?_
  | with_reducible refine rd_drop ?_
  | with_reducible refine rd_gsub ?_
  | with_reducible refine rd_gcons ?_
  | with_reducible refine rd_gnil ?_
  | with_reducible refine rd_par ?_
  | with_reducible refine rd_two ?_
  | with_reducible refine rd_part ?_
  | with_reducible refine rd_nopart ?_
  | with_reducible refine rd_int ?_
  | with_reducible refine rd_sl ?_
  | with_reducible refine rd_bm ?_
  | with_reducible refine rd_bm0 ?_
  | with_reducible refine rd_dgetT ?_
  | with_reducible refine rd_din ?_
  | with_reducible refine rd_dnin ?_
  | with_reducible refine rd_un ?_
  | ((with_reducible refine' rd_ixL ?rh ?re ?_); (case rh => walk_at "hp"); (case re => walk_at "at"))
  | ((with_reducible refine' rd_ixT ?rh ?re ?_); (case rh => walk_at "sq"); (case re => walk_at "at"))
  | ((with_reducible refine' rd_lenT ?rh ?_); (case rh => walk_at "sq"))
  | ((with_reducible refine' rd_tyL ?rh ?_); (case rh => walk_at "hp"))
  | ((with_reducible refine' rd_len ?rh ?_); (case rh => walk_at "hp"))
  | with_reducible refine rd_retN ?_)
local macro_rules | `(tactic| walk_at "rd") => `(tactic| repeat walk_at "rd1")
section
variable [KW]
variable {P : Program} {w : World} {K : PySem.W.Frag} {mg : Str → Option Value} {base : Heap}
theorem w3_dou (wd : W3) : decide (V.str wd.str = V.str "doubled") = wd.boxes := by cases wd <;> decide
/-! ### _law_due -/
structure DueP (vs : List V) (H : Hp) (Q : VK) : Prop where
  ex : ∃ (M : List Addr) (wd : W3) (v1 v2 : V) (d r e : PyData), vs = [.str wd.str, v1, v2] ∧ (∀ b ∈ M, H b ≠ none) ∧ Is M H d v1 ∧ Is M H r v2 ∧ (∀ ds, d = .list ds → ds.length ≤ 1000000) ∧ Due wd d r e ∧ ∀ v' H', Is M H' e v' → Adv [] H H' → Q v' H'
def spDue : Sp := fun vs H Q _ => DueP vs H Q
theorem ok_law_due (A : All K mg w) : FnOk P w K mg base CX0 5 A.law_due.f A.law_due.fd ["word", "sheet", "row"] spDue := by
  refine A.law_due.F.ok sc_law_due (fun vs H Q E h => ?_) (fun cdv Ar outer s H vs Q E hr h => ?_)
  · obtain ⟨M, wd, v1, v2, d, r, e, rfl, _⟩ := h.ex
    rfl
  · obtain ⟨M, wd, v1, v2, d, r, e, rfl, hal, h1, h2, hz, hD, q⟩ := h.ex
    refine ⟨_, (pss_cons (ps_set (i := 3) sc_law_due.nd rfl (Or.inl rfl) (pe_call (ok_law_wrong_row A) (hr.mono (by omega)) rfl A.law_wrong_row.m A.law_wrong_row.F.kp A.law_wrong_row.b .nil pass0 (pa_cons (pv 1) (pa_cons pe_int (pa_cons (pe_cmpR op_eq (pv 0) pe_str (nomark _)) pa_nil)))))
  (pss_cons (ps_if (pt_cmpR op_notN (pv 3) pe_non (nomark _))
    (pss_one (ps_ret (pe_tup (pa_cons pe_str (pa_cons (pv 3) pa_nil)))))
    pss_nil)
  (pss_cons (ps_if (pt_not (pt_val (pe_call (ok_law_number A) (hr.mono (by omega)) rfl A.law_number.m A.law_number.F.kp A.law_number.b .nil pass0 (pa_cons (pv 2) (pa_cons pe_int (pa_cons (pe_op op_sub (pe_callB call_len_seq (by rfl) A.T.len PySem.boot_len (pa_cons (pv 1) pa_nil)) pe_int) pa_nil))))))
    (pss_one (ps_ret (pe_tup (pa_cons pe_str (pa_cons pe_str pa_nil)))))
    pss_nil)
  (pss_cons (ps_set (i := 4) sc_law_due.nd rfl (Or.inl rfl) (pe_call (ok_law_book A) (hr.mono (by omega)) rfl A.law_book.m A.law_book.F.kp A.law_book.b .nil pass0 (pa_cons (pv 1) pa_nil)))
  (pss_cons (ps_set (i := 5) sc_law_due.nd rfl (Or.inl rfl) (pe_call (ok_law_read A) (hr.mono (by omega)) rfl A.law_read.m A.law_read.F.kp A.law_read.b .nil pass0 (pa_cons (pv 0) (pa_cons (pv 4) (pa_cons (pe_lst (pa_cons (pv 2) pa_nil)) pa_nil)))))
  (pss_one (ps_ret (pe_tup (pa_cons pe_str (pa_cons (pe_tup (pa_cons (pe_ix ix_list (pv 4) pe_int (fun _ _ => rfl)) (pa_cons (pe_dget (hu_of hr) (pv 5) (pv 2) (fun _ _ => rfl)) pa_nil))) pa_nil)))))))))), ?_⟩
    walk_at "rd"
    refine ⟨v1, d, 5000, wd.boxes, by rw [w3_dou]; rfl, h1.less (by simp), by decide, hz, fun H1 a1 => ?_⟩
    have al1 : ∀ b ∈ M, H1 b ≠ none := alloc_adv hal a1 (by simp)
    walk_at "rd"
    cases hD with
    | sheet i e =>
      rw [e]
      refine iteY (by simp [resV]) ?_
      walk_at "rd"
      refine ⟨by show 2 ≤ sizeLine; decide, fun p np => ?_⟩
      exact q _ _ (Is.tup upd_same (not_mem_new al1 np) (.cons .str (.cons .int .nil))) (a1.newT np)
    | value e e2 =>
      rw [e]
      refine iteN (by decide) ?_
      obtain ⟨ns, rfl, ok, hl⟩ := wrongD_none (by decide) e
      obtain ⟨sh, rs, rfl, _, hsh, rd⟩ := h1.lstE
      have hsh1 := a1.same _ _ hsh
      have hrl := rd.len
      rw [List.length_map] at hrl
      have el : lenD (.list (ns.map Nd.data)) = ns.length := by show (ns.map Nd.data).length = ns.length; rw [List.length_map]
      rw [el] at e2
      walk_at "rd"
      refine ⟨v2, r, 0, _, rfl, (h2.adv (Adv.nil a1)).less (by simp), ?_⟩
      rw [hrl]
      walk_at "rd"
      refine iteY (by rw [e2]; rfl) ?_
      walk_at "rd"
      refine ⟨by show 2 ≤ sizeLine; decide, fun p np => ?_⟩
      exact q _ _ (Is.tup upd_same (not_mem_new al1 np) (.cons .str (.cons .str .nil))) (a1.newT np)
    | told ns row e hd ok hl hrr hlt =>
      subst hd hrr
      rw [e]
      refine iteN (by decide) ?_
      obtain ⟨sh, rs, rfl, _, hsh, rd⟩ := h1.lstE
      have hsh1 := a1.same _ _ hsh
      have hrl := rd.len
      rw [List.length_map] at hrl
      cases h2.intE
      walk_at "rd"
      refine ⟨.int row, .int row, 0, _, rfl, Is.int, ?_⟩
      rw [hrl]
      walk_at "rd"
      refine iteN (by simp [isNum]; omega) ?_
      walk_at "rd"
      refine ⟨⟨M, sh, rs, ns, rfl, hsh1, rd.adv (Adv.nil a1), al1, ok.1, by omega, fun bk b0 b1 H2 n0 n1 kM hbk B a2 => ?_⟩⟩
      walk_at "rd"
      refine ⟨by show 1 ≤ sizeLine; decide, fun pr npr => ?_⟩
      walk_at "rd"
      have ap : Adv [] H2 (upd H2 pr (.lst [.int row])) := Adv.new npr
      refine ⟨⟨b0 :: b1 :: M, bk, b0, b1, pr, ns, [row], wd.boxes, wd, rfl, ap.same _ _ hbk, kM, B.same ap, ok, by omega, upd_same, by simpa using hlt, by simp, fun dn H3 nd hdn B3 a3 => ?_⟩⟩
      have hbk3 := a3 _ _ (notin2 (fun z => kM (by simp [z])) (fun z => kM (by simp [z]))) (ap.same _ _ hbk)
      walk_at "rd"
      refine rd_dget (new_get hdn (below_row (by simp) hlt)) ?_
      walk_at "rd"
      refine ⟨by show 2 ≤ sizeLine; decide, fun t2 nt2 => ?_⟩
      walk_at "rd"
      refine ⟨by show 2 ≤ sizeLine; decide, fun t1 nt1 => ?_⟩
      obtain ⟨rs3, r03, rd3⟩ := B3.rows
      have a13 : Adv [] H1 H3 := by
        have z1 : Adv [b0, b1] H1 H3 := (Adv.nil (a2.trans ap)).trans a3
        exact (z1.drop n0).drop n1
      have al3 : ∀ b ∈ M, H3 b ≠ none := alloc_adv al1 a13 (by simp)
      have b0M : b0 ∉ M := fun z => al1 b0 z n0
      have c2 : Adv [] H3 (upd H3 t2 (.tup [.ref b0, .int ((readF wd ns (belowF ns [row]) ns (fun _ => 0)).2 row : Nat)])) := Adv.new nt2
      have c1 := c2.newT (o := .tup [.str "told", .ref t2]) nt1
      have nt1' : H3 t1 = none := c2.free (by simp) nt1
      refine q _ _ (Is.tup upd_same (not_mem_new al3 nt1') (.cons .str (.cons (Is.tup (a := t2) ?_ (not_mem_new al3 nt2) (.cons (Is.lst (c1.same _ _ r03) b0M ((rd3.less (by simp +contextual)).adv (Adv.nil c1))) (.cons .int .nil))) .nil))) ((a1.trans a13).trans c1)
      exact (upd_ne (ne_of_none (upd_same (H := H3)) nt1)).trans upd_same
/-! ### _law_asked -/
/-- the told answer is new -/
def ToldNew (H H' : Hp) (v' : V) (e : PyData) : Prop := ∀ es i, e = .tuple [.str "told", .tuple [.list es, .int i]] → ∃ t1 t2 L rs, v' = .ref t1 ∧ H' t1 = some (.tup [.str "told", .ref t2]) ∧ H' t2 = some (.tup [.ref L, .int i]) ∧ H' L = some (.lst rs) ∧ rs.length = es.length ∧ H L = none
structure AskedP (vs : List V) (H : Hp) (Q : VK) : Prop where
  ex : ∃ (M : List Addr) (wd : W3) (v1 v2 : V) (d r e : PyData), vs = [.str wd.str, v1, v2] ∧ (∀ b ∈ M, H b ≠ none) ∧ Is M H d v1 ∧ Is M H r v2 ∧ dep d ≤ 4 ∧ sz d ≤ 1000000 ∧ Due wd d r e ∧
    ∀ v' H', Is M H' e v' → Adv [] H H' → ToldNew H H' v' e → Q v' H'
def spAsked : Sp := fun vs H Q _ => AskedP vs H Q
theorem nam_S {Z : Exs K mg} (N : NF Z "BadSheet") : Nam K mg Z "BadSheet" := ⟨N, 1, rfl, by decide, rfl, fun m hm z hz => by obtain rfl : m = 0 := by { omega }; cases hz; decide⟩
theorem nam_V {Z : Exs K mg} (N : NF Z "BadValue") : Nam K mg Z "BadValue" := ⟨N, 7, rfl, by decide, rfl, fun m hm z hz => by
  have : m = 0 ∨ m = 1 ∨ m = 2 ∨ m = 3 ∨ m = 4 ∨ m = 5 ∨ m = 6 := by omega
  rcases this with rfl | rfl | rfl | rfl | rfl | rfl | rfl <;> (cases hz; decide)⟩
theorem len_sz {d : PyData} (h : sz d ≤ 1000000) : ∀ ds, d = .list ds → ds.length ≤ 1000000 := fun ds e => by
  subst e
  have := szL_len ds
  rw [sz_lst] at h
  omega
theorem ok_law_asked (A : All K mg w) (G : Grw K mg) (R : Rds A) (Z : Exs K mg) (Z1 : Er_BadSheet Z) (Z2 : Er_BadValue Z) : FnOk P w K mg base CX0 8 A.law_asked.f A.law_asked.fd ["word", "sheet", "row"] spAsked := by
  refine A.law_asked.F.ok sc_law_asked (fun vs H Q E h => ?_) (fun cdv Ar outer s H vs Q E hr h => ?_)
  · obtain ⟨M, wd, v1, v2, d, r, e, rfl, _⟩ := h.ex
    rfl
  · obtain ⟨M, wd, v1, v2, d, r, e, rfl, hal, h1, h2, hdep, hsz, hD, q⟩ := h.ex
    refine ⟨_, (pss_cons (ps_set (i := 3) sc_law_asked.nd rfl (Or.inl rfl) (pe_call (ok_law_copy A 4) (hr.mono (by omega)) rfl A.law_copy.m A.law_copy.F.kp A.law_copy.b .nil pass0 (pa_cons (pv 1) pa_nil)))
  (pss_cons (ps_tryAs (n := "error") (i := 5) (Wout := fun _ _ _ _ => False) rfl rfl sc_law_asked.nd rfl rfl takes_no
    (fun W pn xe tk po => (pss_one (ps_if (pt_cmpR op_eq (pv 0) pe_str (nomark _))
    (pss_one (ps_set (i := 4) sc_law_asked.nd rfl (Or.inl rfl) (pe_callS (ok_negative A G R Z Z1 Z2) (hr.mono (by omega)) rfl A.negative.m A.negative.F.kp A.negative.b (fun σ => L2N.passAt tk σ) (pa_cons (pv 3) (pa_cons (pv 2) pa_nil)))))
    (pss_one (ps_if (pt_cmpR op_eq (pv 0) pe_str (nomark _))
    (pss_one (ps_set (i := 4) sc_law_asked.nd rfl (Or.inl rfl) (pe_callS (ok_boxed A G R Z Z1 Z2) (hr.mono (by omega)) rfl A.boxed.m A.boxed.F.kp A.boxed.b (fun σ => L2N.passAt tk σ) (pa_cons (pv 3) (pa_cons (pv 2) pa_nil)))))
    (pss_one (ps_set (i := 4) sc_law_asked.nd rfl (Or.inl rfl) (pe_callS (ok_doubled A G R Z Z1 Z2) (hr.mono (by omega)) rfl A.doubled.m A.doubled.F.kp A.doubled.b (fun σ => L2N.passAt tk σ) (pa_cons (pv 3) (pa_cons (pv 2) pa_nil))))))))))
    (.cons (c := .ref Z.CE) ⟨rfl, by decide, .inl Z.mC⟩ (fun a oe cls d pn hz hf => (pss_cons (ps_set (i := 6) sc_law_asked.nd rfl (Or.inl rfl) (pe_named (X := (cxOf CX0 P w K mg base ["word", "sheet", "row", "handed", "told", "error", "name"] "_law_asked" (defScope s_law_asked) A.law_asked.f cdv Ar outer s H E).nox) (pn := pn) A Z (hr.mono (by omega)) (by rfl) hz.zc hf (pv 5)))
  (pss_one (ps_ret (pe_tup (pa_cons (pv 6) (pa_cons (pe_ifExp (pt_cmpR op_eq (pv 6) pe_str (nomark _)) (pe_xf Z1.X Z1.A_ hz.zc hf (pv 5)) (pe_ifExp (pt_cmpR op_eq (pv 6) pe_str (nomark _)) (pe_xf Z2.X Z2.A_ hz.zc hf (pv 5)) pe_non)) pa_nil))))))) .nil))
  (pss_one (ps_ret (pe_ifExp (pt_val (pe_call (ok_law_same A) (hr.mono (by omega)) rfl A.law_same.m A.law_same.F.kp A.law_same.b .nil pass0 (pa_cons (pv 3) (pa_cons (pv 1) pa_nil)))) (pe_tup (pa_cons pe_str (pa_cons (pv 4) pa_nil))) (pe_tup (pa_cons pe_str (pa_cons pe_non pa_nil)))))))), ?_⟩
    walk_at "rd"
    refine ⟨v1, d, M, rfl, hal, h1, by omega, hsz, fun v3 H1 h3 a1 => ?_⟩
    have al1 : ∀ b ∈ M, H1 b ≠ none := alloc_adv hal a1 (by simp)
    have h21 := h2.adv (Adv.nil a1)
    cases wd <;>
    · walk_at "rd"
      refine ⟨_, _, rfl, ⟨⟨M, d, r, al1, h3, h21, len_sz hsz, fun i hi dd H2 a2 n2 hdd => ?_, fun hn hf2 dd H2 a2 n2 hdd => ?_, fun ns row hn hd ok hl hrr hlt t L rs H2 a2 ht hL hrs nL nt => ?_⟩⟩⟩
      · have ed := due_sheet hD hi
        refine ⟨true, Z1.N.hC, fun _ a na => ?_, (fun z => nomatch z)⟩
        refine ⟨_, rfl, rfl, "BadSheet", nam_S Z1.N, rfl, fun dd' z => ⟨_, by cases z; exact hdd⟩, fun H3 a3 => ?_⟩
        walk_at "rd"
        refine ⟨_, rfl, rfl, rfl, dd, _, .int i, rfl, a3.same _ _ hdd, rfl, ?_⟩
        walk_at "rd"
        refine ⟨by show 2 ≤ sizeLine; decide, fun p np => ?_⟩
        subst ed
        exact q _ _ (Is.tup upd_same (not_mem_new (alloc_adv al1 (a2.trans a3) (by simp)) np) (.cons .str (.cons .int .nil))) (((a1.trans a2).trans a3).newT np) (fun es j z => by injection z with z; injection z with z1 z2; injection z1 with z1; exact absurd z1 (by decide))
      · have ed := due_value hD hn hf2
        refine ⟨true, Z2.N.hC, fun _ a na => ?_, (fun z => nomatch z)⟩
        refine ⟨_, rfl, rfl, "BadValue", nam_V Z2.N, rfl, fun dd' z => ⟨_, by cases z; exact hdd⟩, fun H3 a3 => ?_⟩
        walk_at "rd"
        refine ⟨_, rfl, rfl, rfl, dd, _, .str "row", rfl, a3.same _ _ hdd, rfl, ?_⟩
        walk_at "rd"
        refine ⟨by show 2 ≤ sizeLine; decide, fun p np => ?_⟩
        subst ed
        exact q _ _ (Is.tup upd_same (not_mem_new (alloc_adv al1 (a2.trans a3) (by simp)) np) (.cons .str (.cons .str .nil))) (((a1.trans a2).trans a3).newT np) (fun es j z => by injection z with z; injection z with z1 z2; injection z1 with z1; exact absurd z1 (by decide))
      · have ed := due_told hD hn hd hrr hlt
        walk_at "rd"
        refine ⟨v3, v1, d, rfl, (h3.adv (Adv.nil a2)).less (by simp), ((h1.adv (Adv.nil a1)).adv (Adv.nil a2)).less (by simp), hsz, fun H3 a3 => ?_⟩
        walk_at "rd"
        refine ⟨by show 2 ≤ sizeLine; decide, fun p np => ?_⟩
        subst ed
        have al2 := alloc_adv al1 a2 (by simp)
        have LM : L ∉ M := fun z => al1 L z nL
        have tM : t ∉ M := fun z => al1 t z nt
        have nL0 : H L = none := a1.free (by simp) nL
        have c3 := a3.newT (o := .tup [.str "told", .ref t]) np
        have hlen := hrs.len
        refine q _ _ (Is.tup upd_same (not_mem_new (alloc_adv al2 a3 (by simp)) np) (.cons .str (.cons (Is.tup (c3.same _ _ ht) tM (.cons (Is.lst (c3.same _ _ hL) LM ((hrs.less (by simp +contextual)).adv (Adv.nil c3))) (.cons .int .nil))) .nil))) ((a1.trans a2).trans c3) (fun es j z => ?_)
        injection z with z
        injection z with z1 z2
        injection z2 with z2 z3
        injection z2 with z2
        injection z2 with z4 z5
        injection z4 with z4
        injection z5 with z5 z6
        injection z5 with z5
        subst z4 z5
        exact ⟨p, t, L, rs, rfl, upd_same, c3.same _ _ ht, c3.same _ _ hL, hlen, nL0⟩
end
end K59

set_option Elab.async false
set_option linter.all false
set_option maxRecDepth 100000
set_option maxHeartbeats 400000
namespace K59
open PySem PySem.Spec PyProof.Rows L2 LL
open C8 (pss_cut)
local macro_rules | `(tactic| walk_at "ne") => `(tactic| first | assumption | (apply Ne.symm; assumption) | exact ne_of_none (by walk_at "hp") (by assumption) | exact (ne_of_none (by walk_at "hp") (by assumption)).symm)
local macro_rules | `(tactic| walk_at "nm") => `(tactic| first | assumption | exact notin0 | exact notin1 (by walk_at "ne") | exact notin2 (by walk_at "ne") (by walk_at "ne"))
local macro_rules | `(tactic| walk_at "hp") => `(tactic| first | assumption | exact upd_same | (refine Eq.trans (upd_ne ?ne) ?hh; (case hh => walk_at "hp"); (case ne => walk_at "ne")) | (refine Adv.get' (by assumption) ?hh ?nn; (case hh => walk_at "hp"); (case nn => walk_at "nm")))
local macro_rules | `(tactic| walk_at "tp") => `(tactic| first | assumption | exact Tp.adv (by walk_at "tp") (by assumption) | exact Tp.adv (by walk_at "tp") (Adv.nil (by assumption)))
local macro_rules | `(tactic| walk_at "sq") => `(tactic| first | assumption | exact Tp.sq (by assumption) (by walk_at "tp") | exact SqT.of (by walk_at "hp"))
local macro_rules | `(tactic| walk_at "at") => `(tactic| first | exact atI_nat (j := 0) rfl | exact atI_nat (j := 1) rfl | exact atI_nat (j := 2) rfl | exact atI_nat (j := 3) rfl | exact atI_nat (by assumption) | (rw [Int.zero_add]; exact atI_nat (by assumption)))
local macro_rules | `(tactic| walk_at "bb") => `(tactic| first | assumption | decide | exact rfl)
local macro_rules | `(tactic| walk_at "rd1") => `(tactic| first
  | with_reducible refine rd_c ?_
  | ((with_reducible refine' rd_var ?rh ?_); (case rh => exact rfl))
  | with_reducible refine rd_op ?_
  | with_reducible refine rd_seq ?_
  | with_reducible refine rd_asg ?_
  | with_reducible refine rd_gname ?_
  | with_reducible refine rd_ifS ?_
  | with_reducible refine rd_test ?_
  | with_reducible refine rd_tB ?_
  | with_reducible refine rd_blP ?_
  | ((with_reducible refine' iteY ?rh ?_); (case rh => walk_at "bb"))
  | ((with_reducible refine' iteN ?rh ?_); (case rh => walk_at "bb"))
  | with_reducible refine rd_ret ?_
  | with_reducible refine rd_nx ?_
  | ((with_reducible refine' rd_eq ?rh ?_); (case rh => exact rfl))
  | ((with_reducible refine' rd_ne ?rh ?_); (case rh => exact rfl))
  | with_reducible refine rd_add ?_
  | with_reducible refine rd_sub ?_
  | with_reducible refine rd_i0 ?_
  | with_reducible refine rd_and ?_
  | with_reducible refine rd_or ?_
  | with_reducible refine rd_not ?_
  | with_reducible refine rd_andV ?_
  | with_reducible refine rd_orV ?_
  | with_reducible refine rd_notV ?_
  | with_reducible refine rd_ifE ?_
  | with_reducible refine rd_isN ?_
  | with_reducible refine rd_notN ?_
  | with_reducible refine rd_cons ?_
  | with_reducible refine rd_nil ?_
  | with_reducible refine rd_tup ?_
  | with_reducible refine rd_lst ?_
  | with_reducible refine rd_call ?_
  | with_reducible refine rd_cb ?_
  | with_reducible refine rd_meth ?_
  | with_reducible refine rd_callS ?_
  | with_reducible refine rd_make ?_
  | with_reducible refine rd_rfl ?_
  | with_reducible refine rd_fld ?_
  | with_reducible refine rd_drop ?_
  | with_reducible refine rd_gsub ?_
  | with_reducible refine rd_gcons ?_
  | with_reducible refine rd_gnil ?_
  | with_reducible refine rd_par ?_
  | with_reducible refine rd_two ?_
  | with_reducible refine rd_part ?_
  | with_reducible refine rd_nopart ?_
  | with_reducible refine rd_int ?_
  | with_reducible refine rd_sl ?_
  | with_reducible refine rd_bm ?_
  | with_reducible refine rd_bm0 ?_
  | with_reducible refine rd_dgetT ?_
  | with_reducible refine rd_din ?_
  | with_reducible refine rd_dnin ?_
  | with_reducible refine rd_un ?_
  | ((with_reducible refine' rd_ixL ?rh ?re ?_); (case rh => walk_at "hp"); (case re => walk_at "at"))
  | ((with_reducible refine' rd_ixT ?rh ?re ?_); (case rh => walk_at "sq"); (case re => walk_at "at"))
  | ((with_reducible refine' rd_lenT ?rh ?_); (case rh => walk_at "sq"))
  | ((with_reducible refine' rd_tyL ?rh ?_); (case rh => walk_at "hp"))
  | ((with_reducible refine' rd_len ?rh ?_); (case rh => walk_at "hp"))
  | with_reducible refine rd_retN ?_)
local macro_rules | `(tactic| walk_at "rd") => `(tactic| repeat walk_at "rd1")
section
variable [KW]
variable {P : Program} {w : World} {K : PySem.W.Frag} {mg : Str → Option Value} {base : Heap}
/-- a node that was written just now is put into the book -/
theorem row_dn {M : List Addr} {H H0 : Hp} {s bk b0 b1 p : Addr} {bx : Bool} {ns0 ns : List Nd} {c : Nat} {Q : VK} (n : Nd) (D : Dw M H s bk b0 b1 bx ns) (hp : H p = none) (hn : n.ok bx ns.length = true) (hl : ns.length ≤ 900000)
    (pre : ns0 <+: ns) (hc : ns.length + 1 ≤ ns0.length + c) (a0 : Adv [s, b0, b1] H0 H) (q : ∀ r ns' H', Dn c M s bk b0 b1 bx ns0 H0 r ns' H' → Q (.int (r : Nat)) H') : RowP [.ref bk, .ref p] (upd H p (.tup (n.keys.map kV))) Q := by
  have a : Adv [] H (upd H p (.tup (n.keys.map kV))) := Adv.new hp
  have D1 := D.same a
  have h1 := row_len ns n
  exact ⟨⟨M, bk, b0, b1, p, ns, n, rfl, D1.hbk, D.kM, D1.B, Tp.of upd_same (not_mem_new D.B.al hp), by omega, fun H' B' a' => q _ _ H' ⟨pre.trans (rowF_pre ns n), rowF_lt ns n, by omega, D1.row hn a' B', (a0.trans (Adv.nil a)).trans (a_b a')⟩⟩⟩
/-! ### _law_leaf -/
structure LeafP (vs : List V) (H : Hp) (Q : VK) : Prop where
  ex : ∃ (M : List Addr) (s bk b0 b1 : Addr) (bx : Bool) (ns : List Nd) (letters : Int), vs = [.ref s, .ref bk, .int letters] ∧ Dw M H s bk b0 b1 bx ns ∧ 0 < letters ∧ letters ≤ 8 ∧ ns.length ≤ 900000 ∧
    ∀ r ns' H', Dn 1 M s bk b0 b1 bx ns H r ns' H' → Q (.int (r : Nat)) H'
def spLeaf : Sp := fun vs H Q _ => LeafP vs H Q
theorem ok_law_leaf (A : All K mg w) : FnOk P w K mg base CX0 2 A.law_leaf.f A.law_leaf.fd ["stream", "book", "letters"] spLeaf := by
  refine A.law_leaf.F.ok sc_law_leaf (fun vs H Q E h => ?_) (fun cdv Ar outer s H vs Q E hr h => ?_)
  · obtain ⟨M, s, bk, b0, b1, bx, ns, letters, rfl, _⟩ := h.ex
    rfl
  · obtain ⟨M, s, bk, b0, b1, bx, ns, letters, rfl, D, l0, l1, hl, q⟩ := h.ex
    refine ⟨_, (pss_one (ps_ret (pe_call (ok_law_row A) (hr.mono (by omega)) rfl A.law_row.m A.law_row.F.kp A.law_row.b .nil pass0 (pa_cons (pv 1) (pa_cons (pe_ifExp (pt_cmpR op_eq (pe_call (ok_law_next A) (hr.mono (by omega)) rfl A.law_next.m A.law_next.F.kp A.law_next.b .nil pass0 (pa_cons (pv 0) (pa_cons pe_int pa_nil))) pe_int (nomark _)) (pe_tup (pa_cons pe_str pa_nil)) (pe_tup (pa_cons pe_str (pa_cons (pe_call (ok_law_next A) (hr.mono (by omega)) rfl A.law_next.m A.law_next.F.kp A.law_next.b .nil pass0 (pa_cons (pv 0) (pa_cons (pv 2) pa_nil))) pa_nil)))) pa_nil))))), ?_⟩
    walk_at "rd"
    refine ⟨s, 7, M, rfl, D.str, by decide, by decide, fun d H1 d0 d1 hs1 a1 => ?_⟩
    have D1 := D.next a1 hs1
    walk_at "rd"
    refine iteB (fun e => ?_) (fun e => ?_)
    · walk_at "rd"
      refine ⟨by show 1 ≤ sizeLine; decide, fun p np => ?_⟩
      walk_at "rd"
      exact row_dn .no D1 np rfl hl (List.prefix_refl _) (by omega) (a_s a1) q
    · walk_at "rd"
      refine ⟨s, letters, M, rfl, hs1, l0, by omega, fun x H2 x0 x1 hs2 a2 => ?_⟩
      have D2 := D1.next a2 hs2
      obtain ⟨j, rfl⟩ : ∃ j : Nat, x = (j : Int) := ⟨x.toNat, by omega⟩
      walk_at "rd"
      refine ⟨by show 2 ≤ sizeLine; decide, fun p np => ?_⟩
      walk_at "rd"
      exact row_dn (.letter j) D2 np (by simp only [Nd.ok, decide_eq_true_eq]; omega) hl (List.prefix_refl _) (by omega) ((a_s a1).trans (a_s a2)) q
/-! ### _law_tree -/
structure TreeP (c : Int → Nat) (m : Nat) (vs : List V) (H : Hp) (Q : VK) : Prop where
  ex : ∃ (M : List Addr) (s bk b0 b1 : Addr) (bx : Bool) (ns : List Nd) (letters many : Int), vs = [.ref s, .ref bk, .int letters, .int many, .bl bx] ∧ Dw M H s bk b0 b1 bx ns ∧ 0 < letters ∧ letters ≤ 8 ∧ 0 ≤ many ∧ many ≤ m ∧ m ≤ 1000 ∧ ns.length + 4 * many.toNat ≤ 800000 ∧
    ∀ r ns' H', Dn (c many) M s bk b0 b1 bx ns H r ns' H' → Q (.int (r : Nat)) H'
def spTree (m : Nat) : Sp := fun vs H Q _ => TreeP (fun many => 2 * many.toNat + 1) m vs H Q
theorem op_pick {x : V} (h : x ∈ [V.str "and", .str "or", .str "if", .str "if"]) : ∃ o : Op3, x = .str o.str := by
  simp at h
  rcases h with h | h | h
  · exact ⟨.and, h⟩
  · exact ⟨.or, h⟩
  · exact ⟨.imp, h⟩
theorem tree_0 (A : All K mg w) : FnOk P w K mg base CX0 3 A.law_tree.f A.law_tree.fd ["stream", "book", "letters", "many", "modal"] (spTree 0) := by
  refine A.law_tree.F.ok sc_law_tree (fun vs H Q E h => ?_) (fun cdv Ar outer s H vs Q E hr h => ?_)
  · obtain ⟨M, s, bk, b0, b1, bx, ns, letters, many, rfl, _⟩ := h.ex
    rfl
  · obtain ⟨M, s, bk, b0, b1, bx, ns, letters, many, rfl, D, l0, l1, m0, mm, m1, hl, q⟩ := h.ex
    refine ⟨_, (pss_cons (ps_if (pt_cmpR op_le (pv 3) pe_int (nomark _))
    (pss_one (ps_ret (pe_call (ok_law_leaf A) (hr.mono (by omega)) rfl A.law_leaf.m A.law_leaf.F.kp A.law_leaf.b .nil pass0 (pa_cons (pv 0) (pa_cons (pv 1) (pa_cons (pv 2) pa_nil))))))
    pss_nil)
  (pss_cut (ps_if (PW.pt (pw_and (pt_val (pv 4)) (pw_and1 (pt_cmpR op_lt (pe_call (ok_law_next A) (hr.mono (by omega)) rfl A.law_next.m A.law_next.F.kp A.law_next.b .nil pass0 (pa_cons (pv 0) (pa_cons pe_int pa_nil))) pe_int (nomark _)))))
    (pss_one (ps_ret (pe_call (ok_law_row A) (hr.mono (by omega)) rfl A.law_row.m A.law_row.F.kp A.law_row.b .nil pass0 (pa_cons (pv 1) (pa_cons (pe_tup (pa_cons pe_str (pa_cons pe_never pa_nil))) pa_nil)))))
    pss_nil)
  (pss_cons (ps_set (i := 5) sc_law_tree.nd rfl (Or.inl rfl) (pe_call (ok_law_next A) (hr.mono (by omega)) rfl A.law_next.m A.law_next.F.kp A.law_next.b .nil pass0 (pa_cons (pv 0) (pa_cons (pv 3) pa_nil))))
  (pss_cons (ps_set (i := 6) sc_law_tree.nd rfl (Or.inl rfl) pe_never)
  (pss_cons (ps_set (i := 7) sc_law_tree.nd rfl (Or.inl rfl) pe_never)
  (pss_one (ps_ret (pe_call (ok_law_row A) (hr.mono (by omega)) rfl A.law_row.m A.law_row.F.kp A.law_row.b .nil pass0 (pa_cons (pv 1) (pa_cons (pe_tup (pa_cons (pe_call (ok_law_pick A) (hr.mono (by omega)) rfl A.law_pick.m A.law_pick.F.kp A.law_pick.b .nil pass0 (pa_cons (pv 0) (pa_cons (pe_tup (pa_cons pe_str (pa_cons pe_str (pa_cons pe_str (pa_cons pe_str pa_nil))))) pa_nil))) (pa_cons (pv 6) (pa_cons (pv 7) pa_nil)))) pa_nil)))))))))), ?_⟩
    walk_at "rd"
    refine iteB (fun e => ?_) (fun e => ?_)
    · walk_at "rd"
      exact ⟨⟨M, s, bk, b0, b1, bx, ns, letters, rfl, D, l0, l1, by omega, fun r ns' H' x => q r ns' H' ⟨x.pre, x.lt, by have := x.le; omega, x.D, x.a⟩⟩⟩
    · have hm0 : ¬ many ≤ 0 := of_decide_eq_false e
      omega
theorem tree_s (A : All K mg w) {m : Nat} (G : FnOk P w K mg base CX0 (m + 3) A.law_tree.f A.law_tree.fd ["stream", "book", "letters", "many", "modal"] (spTree m)) : FnOk P w K mg base CX0 (m + 4) A.law_tree.f A.law_tree.fd ["stream", "book", "letters", "many", "modal"] (spTree (m + 1)) := by
  refine A.law_tree.F.ok sc_law_tree (fun vs H Q E h => ?_) (fun cdv Ar outer s H vs Q E hr h => ?_)
  · obtain ⟨M, s, bk, b0, b1, bx, ns, letters, many, rfl, _⟩ := h.ex
    rfl
  · obtain ⟨M, s, bk, b0, b1, bx, ns, letters, many, rfl, D, l0, l1, m0, mm, m1, hl, q⟩ := h.ex
    refine ⟨_, (pss_cons (ps_if (pt_cmpR op_le (pv 3) pe_int (nomark _))
    (pss_one (ps_ret (pe_call (ok_law_leaf A) (hr.mono (by omega)) rfl A.law_leaf.m A.law_leaf.F.kp A.law_leaf.b .nil pass0 (pa_cons (pv 0) (pa_cons (pv 1) (pa_cons (pv 2) pa_nil))))))
    pss_nil)
  (pss_cut (ps_if (PW.pt (pw_and (pt_val (pv 4)) (pw_and1 (pt_cmpR op_lt (pe_call (ok_law_next A) (hr.mono (by omega)) rfl A.law_next.m A.law_next.F.kp A.law_next.b .nil pass0 (pa_cons (pv 0) (pa_cons pe_int pa_nil))) pe_int (nomark _)))))
    (pss_one (ps_ret (pe_call (ok_law_row A) (hr.mono (by omega)) rfl A.law_row.m A.law_row.F.kp A.law_row.b .nil pass0 (pa_cons (pv 1) (pa_cons (pe_tup (pa_cons pe_str (pa_cons (pe_call G (hr.mono (by omega)) rfl A.law_tree.m A.law_tree.F.kp A.law_tree.b .nil pass0 (pa_cons (pv 0) (pa_cons (pv 1) (pa_cons (pv 2) (pa_cons (pe_op op_sub (pv 3) pe_int) (pa_cons (pv 4) pa_nil)))))) pa_nil))) pa_nil)))))
    pss_nil)
  (pss_cons (ps_set (i := 5) sc_law_tree.nd rfl (Or.inl rfl) (pe_call (ok_law_next A) (hr.mono (by omega)) rfl A.law_next.m A.law_next.F.kp A.law_next.b .nil pass0 (pa_cons (pv 0) (pa_cons (pv 3) pa_nil))))
  (pss_cons (ps_set (i := 6) sc_law_tree.nd rfl (Or.inl rfl) (pe_call G (hr.mono (by omega)) rfl A.law_tree.m A.law_tree.F.kp A.law_tree.b .nil pass0 (pa_cons (pv 0) (pa_cons (pv 1) (pa_cons (pv 2) (pa_cons (pv 5) (pa_cons (pv 4) pa_nil)))))))
  (pss_cons (ps_set (i := 7) sc_law_tree.nd rfl (Or.inl rfl) (pe_call G (hr.mono (by omega)) rfl A.law_tree.m A.law_tree.F.kp A.law_tree.b .nil pass0 (pa_cons (pv 0) (pa_cons (pv 1) (pa_cons (pv 2) (pa_cons (pe_op op_sub (pe_op op_sub (pv 3) pe_int) (pv 5)) (pa_cons (pv 4) pa_nil)))))))
  (pss_one (ps_ret (pe_call (ok_law_row A) (hr.mono (by omega)) rfl A.law_row.m A.law_row.F.kp A.law_row.b .nil pass0 (pa_cons (pv 1) (pa_cons (pe_tup (pa_cons (pe_call (ok_law_pick A) (hr.mono (by omega)) rfl A.law_pick.m A.law_pick.F.kp A.law_pick.b .nil pass0 (pa_cons (pv 0) (pa_cons (pe_tup (pa_cons pe_str (pa_cons pe_str (pa_cons pe_str (pa_cons pe_str pa_nil))))) pa_nil))) (pa_cons (pv 6) (pa_cons (pv 7) pa_nil)))) pa_nil)))))))))), ?_⟩
    walk_at "rd"
    refine iteB (fun e => ?_) (fun e => ?_)
    · walk_at "rd"
      exact ⟨⟨M, s, bk, b0, b1, bx, ns, letters, rfl, D, l0, l1, by omega, fun r ns' H' x => q r ns' H' ⟨x.pre, x.lt, by have := x.le; omega, x.D, x.a⟩⟩⟩
    have hm0 : ¬ many ≤ 0 := of_decide_eq_false e
    walk_at "rd"
    refine ⟨fun σ' H' => σ' = [some (.ref s), some (.ref bk), some (.int letters), some (.int many), some (.bl bx), none, none, none] ∧ Dw M H' s bk b0 b1 bx ns ∧ Adv [s, b0, b1] H H', ?_, ?_⟩
    · cases bx with
      | false =>
        walk_at "rd"
        exact ⟨rfl, D, Adv.refl _ _⟩
      | true =>
        walk_at "rd"
        refine ⟨s, 5, M, rfl, D.str, by decide, by decide, fun d H1 d0 d1 hs1 a1 => ?_⟩
        have D1 := D.next a1 hs1
        walk_at "rd"
        refine iteB (fun e => ?_) (fun e => ?_)
        · walk_at "rd"
          refine ⟨⟨M, s, bk, b0, b1, true, ns, letters, many - 1, rfl, D1, l0, l1, by omega, by omega, by omega, by omega, fun j ns2 H2 x => ?_⟩⟩
          have xl := x.le
          have xj := x.lt
          walk_at "rd"
          refine ⟨by show 2 ≤ sizeLine; decide, fun p np => ?_⟩
          walk_at "rd"
          exact row_dn (.box j) x.D np (by simp only [Nd.ok, Bool.true_and, decide_eq_true_eq]; exact x.lt) (by omega) x.pre (by omega) ((a_s a1).trans x.a) q
        · walk_at "rd"
          exact ⟨rfl, D1, a_s a1⟩
    · rintro σ' H1 ⟨rfl, D1, a1⟩
      walk_at "rd"
      refine ⟨s, many, M, rfl, D1.str, by omega, by omega, fun f H2 f0 f1 hs2 a2 => ?_⟩
      have D2 := D1.next a2 hs2
      walk_at "rd"
      refine ⟨⟨M, s, bk, b0, b1, bx, ns, letters, f, rfl, D2, l0, l1, f0, by omega, by omega, by omega, fun j ns3 H3 x3 => ?_⟩⟩
      have xl3 := x3.le
      have xj3 := x3.lt
      have xg3 := x3.ge
      walk_at "rd"
      refine ⟨⟨M, s, bk, b0, b1, bx, ns3, letters, many - 1 - f, rfl, x3.D, l0, l1, by omega, by omega, by omega, by omega, fun k ns4 H4 x4 => ?_⟩⟩
      have xl4 := x4.le
      have xj4 := x4.lt
      have xg4 := x4.ge
      walk_at "rd"
      refine ⟨by show 4 ≤ sizeLine; decide, fun p np => ?_⟩
      have D5 := x4.D.same (Adv.new (o := .tup [.str "and", .str "or", .str "if", .str "if"]) np)
      refine ⟨s, p, [.str "and", .str "or", .str "if", .str "if"], M, rfl, D5.str, .inr upd_same, (x4.D.free np).2.1, by simp, by simp, fun x H6 hx hs6 a6 => ?_⟩
      have D6 := D5.next a6 hs6
      obtain ⟨o, rfl⟩ := op_pick hx
      walk_at "rd"
      refine ⟨by show 3 ≤ sizeLine; decide, fun t nt => ?_⟩
      walk_at "rd"
      exact row_dn (.bin o j k) D6 nt (by simp only [Nd.ok, Bool.and_eq_true, decide_eq_true_eq]; omega) (by omega) (x3.pre.trans x4.pre) (by omega) (((((a1.trans (a_s a2)).trans x3.a).trans x4.a).newT np).trans (a_s a6)) q
theorem ok_law_tree (A : All K mg w) : ∀ m : Nat, FnOk P w K mg base CX0 (m + 3) A.law_tree.f A.law_tree.fd ["stream", "book", "letters", "many", "modal"] (spTree m)
  | 0 => tree_0 A
  | m + 1 => tree_s A (ok_law_tree A m)
end
end K59

set_option Elab.async false
set_option linter.all false
set_option maxRecDepth 100000
set_option maxHeartbeats 400000
namespace K59
open PySem PySem.Spec PyProof.Rows L2 LL
open C8 (pss_cut)
local macro_rules | `(tactic| walk_at "ne") => `(tactic| first | assumption | (apply Ne.symm; assumption) | exact ne_of_none (by walk_at "hp") (by assumption) | exact (ne_of_none (by walk_at "hp") (by assumption)).symm)
local macro_rules | `(tactic| walk_at "nm") => `(tactic| first | assumption | exact notin0 | exact notin1 (by walk_at "ne") | exact notin2 (by walk_at "ne") (by walk_at "ne"))
local macro_rules | `(tactic| walk_at "hp") => `(tactic| first | assumption | exact upd_same | (refine Eq.trans (upd_ne ?ne) ?hh; (case hh => walk_at "hp"); (case ne => walk_at "ne")) | (refine Adv.get' (by assumption) ?hh ?nn; (case hh => walk_at "hp"); (case nn => walk_at "nm")))
local macro_rules | `(tactic| walk_at "tp") => `(tactic| first | assumption | exact Tp.adv (by walk_at "tp") (by assumption) | exact Tp.adv (by walk_at "tp") (Adv.nil (by assumption)))
local macro_rules | `(tactic| walk_at "sq") => `(tactic| first | assumption | exact Tp.sq (by assumption) (by walk_at "tp") | exact SqT.of (by walk_at "hp"))
local macro_rules | `(tactic| walk_at "at") => `(tactic| first | exact atI_nat (j := 0) rfl | exact atI_nat (j := 1) rfl | exact atI_nat (j := 2) rfl | exact atI_nat (j := 3) rfl | exact atI_nat (by assumption) | (rw [Int.zero_add]; exact atI_nat (by assumption)))
local macro_rules | `(tactic| walk_at "bb") => `(tactic| first | assumption | decide | exact rfl)
local macro_rules | `(tactic| walk_at "rd1") => `(tactic| first
  | with_reducible refine rd_c ?_
  | ((with_reducible refine' rd_var ?rh ?_); (case rh => exact rfl))
  | with_reducible refine rd_op ?_
  | with_reducible refine rd_seq ?_
  | with_reducible refine rd_asg ?_
  | with_reducible refine rd_gname ?_
  | with_reducible refine rd_ifS ?_
  | with_reducible refine rd_test ?_
  | with_reducible refine rd_tB ?_
  | with_reducible refine rd_blP ?_
  | ((with_reducible refine' iteY ?rh ?_); (case rh => walk_at "bb"))
  | ((with_reducible refine' iteN ?rh ?_); (case rh => walk_at "bb"))
  | with_reducible refine rd_ret ?_
  | with_reducible refine rd_nx ?_
  | ((with_reducible refine' rd_eq ?rh ?_); (case rh => exact rfl))
  | ((with_reducible refine' rd_ne ?rh ?_); (case rh => exact rfl))
  | with_reducible refine rd_add ?_
  | with_reducible refine rd_sub ?_
  | with_reducible refine rd_i0 ?_
  | with_reducible refine rd_and ?_
  | with_reducible refine rd_or ?_
  | with_reducible refine rd_not ?_
  | with_reducible refine rd_andV ?_
  | with_reducible refine rd_orV ?_
  | with_reducible refine rd_notV ?_
  | with_reducible refine rd_ifE ?_
  | with_reducible refine rd_isN ?_
  | with_reducible refine rd_notN ?_
  | with_reducible refine rd_cons ?_
  | with_reducible refine rd_nil ?_
  | with_reducible refine rd_tup ?_
  | with_reducible refine rd_lst ?_
  | with_reducible refine rd_call ?_
  | with_reducible refine rd_cb ?_
  | with_reducible refine rd_meth ?_
  | with_reducible refine rd_callS ?_
  | with_reducible refine rd_make ?_
  | with_reducible refine rd_rfl ?_
  | with_reducible refine rd_fld ?_
  | with_reducible refine rd_drop ?_
  | with_reducible refine rd_gsub ?_
  | with_reducible refine rd_gcons ?_
  | with_reducible refine rd_gnil ?_
  | with_reducible refine rd_par ?_
  | with_reducible refine rd_two ?_
  | with_reducible refine rd_part ?_
  | with_reducible refine rd_nopart ?_
  | with_reducible refine rd_int ?_
  | with_reducible refine rd_sl ?_
  | with_reducible refine rd_bm ?_
  | with_reducible refine rd_bm0 ?_
  | with_reducible refine rd_dgetT ?_
  | with_reducible refine rd_din ?_
  | with_reducible refine rd_dnin ?_
  | with_reducible refine rd_un ?_
  | ((with_reducible refine' rd_ixL ?rh ?re ?_); (case rh => walk_at "hp"); (case re => walk_at "at"))
  | ((with_reducible refine' rd_ixT ?rh ?re ?_); (case rh => walk_at "sq"); (case re => walk_at "at"))
  | ((with_reducible refine' rd_lenT ?rh ?_); (case rh => walk_at "sq"))
  | ((with_reducible refine' rd_tyL ?rh ?_); (case rh => walk_at "hp"))
  | ((with_reducible refine' rd_len ?rh ?_); (case rh => walk_at "hp"))
  | with_reducible refine rd_retN ?_)
local macro_rules | `(tactic| walk_at "rd") => `(tactic| repeat walk_at "rd1")
section
variable [KW]
variable {P : Program} {w : World} {K : PySem.W.Frag} {mg : Str → Option Value} {base : Heap}
/-! ### _law_heap, _law_formula -/
def spForm (m : Nat) : Sp := fun vs H Q _ => TreeP (fun many => 2 * many.toNat + 3) m vs H Q
/-- the words that are drawn -/
def wordOk (bx : Bool) (wd : Str) : Prop := (∃ o : Op3, wd = o.str) ∨ (wd = "box" ∧ bx = true)
theorem nV_snoc (rs : List Nat) (r : Nat) : nV rs ++ [V.int (r : Nat)] = nV (rs ++ [r]) := by unfold nV; rw [List.map_append]; rfl
theorem nV_len (rs : List Nat) : (nV rs).length = rs.length := by unfold nV; rw [List.length_map]
theorem nV_at {rs : List Nat} {i : Nat} (h : i < rs.length) : (nV rs)[i]? = some (.int (rs[i] : Nat)) := by unfold nV; rw [List.getElem?_map, List.getElem?_eq_getElem h]; rfl
theorem ok_law_heap (A : All K mg w) {m : Nat} : FnOk P w K mg base CX0 3 A.law_heap.f A.law_heap.fd ["stream", "book", "letters", "many", "modal"] (spForm m) := by
  refine A.law_heap.F.ok sc_law_heap (fun vs H Q E h => ?_) (fun cdv Ar outer s H vs Q E hr h => ?_)
  · obtain ⟨M, s, bk, b0, b1, bx, ns, letters, many, rfl, _⟩ := h.ex
    rfl
  · obtain ⟨M, s, bk, b0, b1, bx, ns, letters, many, rfl, D, l0, l1, m0, mm, m1, hl, q⟩ := h.ex
    refine ⟨_, (pss_cons (ps_setLc (i := 6) (own := [("k", 5)]) (g := gName 5) rfl sc_law_heap.nd rfl rfl (sw_true rfl rfl rfl (by decide +kernel)) (pi_range1 rfl A.T.range (pa_cons pe_int pa_nil)) (blkOk_by (own := [("k", 5)]) (N := ["stream", "book", "letters", "many", "modal", "k", "rows", "j", "other", "word"]) (sc := defScope s_law_heap) (by decide +kernel)) (fun _ _ _ _ _ => pg_name (i := 5) sc_law_heap.nd rfl (Or.inl rfl)) (fun _ _ _ _ _ => pts_nil) (fun _ _ _ _ _ => (pe_call (ok_law_leaf A) (hr.mono (by omega)) rfl A.law_leaf.m A.law_leaf.F.kp A.law_leaf.b .nil pass0 (pa_cons (pv 0) (pa_cons (pv 1) (pa_cons (pv 2) pa_nil))))))
  (pss_cons (ps_for PassesOwn.never rfl (pi_range1 rfl A.T.range (pa_cons (pv 3) pa_nil)) (pg_name (i := 5) sc_law_heap.nd rfl (Or.inl rfl))
    (pss_cons (ps_set (i := 7) sc_law_heap.nd rfl (Or.inl rfl) (pe_ix ix_list (pv 6) (pe_op op_sub (pe_op op_sub (pe_callB call_len_seq (by rfl) A.T.len PySem.boot_len (pa_cons (pv 6) pa_nil)) pe_int) (pe_call (ok_law_next A) (hr.mono (by omega)) rfl A.law_next.m A.law_next.F.kp A.law_next.b .nil pass0 (pa_cons (pv 0) (pa_cons pe_int pa_nil)))) (fun _ _ => rfl)))
  (pss_cons (ps_set (i := 8) sc_law_heap.nd rfl (Or.inl rfl) (pe_call (ok_law_pick A) (hr.mono (by omega)) rfl A.law_pick.m A.law_pick.F.kp A.law_pick.b .nil pass0 (pa_cons (pv 0) (pa_cons (pv 6) pa_nil))))
  (pss_cut (ps_set (i := 9) sc_law_heap.nd rfl (Or.inl rfl) (pe_call (ok_law_pick A) (hr.mono (by omega)) rfl A.law_pick.m A.law_pick.F.kp A.law_pick.b .nil pass0 (pa_cons (pv 0) (pa_cons (pe_ifExp (pt_val (pv 4)) (pe_tup (pa_cons pe_str (pa_cons pe_str (pa_cons pe_str (pa_cons pe_str (pa_cons pe_str (pa_cons pe_str pa_nil))))))) (pe_tup (pa_cons pe_str (pa_cons pe_str (pa_cons pe_str (pa_cons pe_str pa_nil)))))) pa_nil))))
  (pss_one (ps_if (pt_cmpR op_eq (pv 9) pe_str (nomark _))
    (pss_one (ps_expr (pe_bm PySem.F.plainAttrs_list PySem.F.slot_list_append PySem.F.type_list_append mt_append (pv 6) (pa_cons (pe_call (ok_law_row A) (hr.mono (by omega)) rfl A.law_row.m A.law_row.F.kp A.law_row.b .nil pass0 (pa_cons (pv 1) (pa_cons (pe_tup (pa_cons pe_str (pa_cons (pv 7) pa_nil))) pa_nil))) pa_nil))))
    (pss_one (ps_expr (pe_bm PySem.F.plainAttrs_list PySem.F.slot_list_append PySem.F.type_list_append mt_append (pv 6) (pa_cons (pe_call (ok_law_row A) (hr.mono (by omega)) rfl A.law_row.m A.law_row.F.kp A.law_row.b .nil pass0 (pa_cons (pv 1) (pa_cons (pe_ifExp (pt_cmpR op_eq (pe_call (ok_law_next A) (hr.mono (by omega)) rfl A.law_next.m A.law_next.F.kp A.law_next.b .nil pass0 (pa_cons (pv 0) (pa_cons pe_int pa_nil))) pe_int (nomark _)) (pe_tup (pa_cons (pv 9) (pa_cons (pv 8) (pa_cons (pv 7) pa_nil)))) (pe_tup (pa_cons (pv 9) (pa_cons (pv 7) (pa_cons (pv 8) pa_nil))))) pa_nil))) pa_nil))))))))))
  (pss_one (ps_ret (pe_ix ix_list (pv 6) (pe_op op_sub (pe_callB call_len_seq (by rfl) A.T.len PySem.boot_len (pa_cons (pv 6) pa_nil)) pe_int) (fun _ _ => rfl)))))), ?_⟩
    -- rows = [leaf, leaf, leaf]
    refine ⟨3, rfl, by decide, by decide, fun d nd => ?_⟩
    obtain ⟨dM, ds, dk, d0, d1⟩ := D.free nd
    have dn : d ∉ [s, b0, b1] := by simp [ds, d0, d1]
    refine lc_range (lo := 0) (n := (3 : Int).toNat) (fun i H' => ∃ (ns' : List Nd) (rs : List Nat), ns <+: ns' ∧ ns'.length ≤ ns.length + i ∧ Dw (d :: M) H' s bk b0 b1 bx ns' ∧ Adv [s, b0, b1] H H' ∧ H' d = some (.lst (nV rs)) ∧ rs.length = i ∧ ∀ r ∈ rs, r < ns'.length)
      ⟨ns, [], List.prefix_refl _, Nat.le_refl _, D.fresh nd, Adv.new nd, upd_same, rfl, by simp⟩ ?_ ?_
    · rintro i H' hi ⟨ns', rs, h1, h2, D1, a1, hd, hrl, hrs⟩
      have hi3 : i < 3 := hi
      have hg := h1.length_le
      refine ⟨rfl, yes_if ?_⟩
      refine iteY rfl ?_
      walk_at "rd"
      refine ⟨⟨d :: M, s, bk, b0, b1, bx, ns', letters, rfl, D1, l0, l1, by omega, fun r ns2 H2 x => ?_⟩⟩
      have hd2 := x.a _ _ dn hd
      have xl := x.le
      have xg := x.ge
      have xt := x.lt
      refine ⟨_, hd2, by rw [nV_len, sizeLine_eq]; omega, ns2, rs ++ [r], h1.trans x.pre, by omega, x.D.put (by simp) ds d0 d1, (a1.trans x.a).mut nd, by rw [upd_same, nV_snoc], by rw [List.length_append, List.length_singleton, hrl], ?_⟩
      intro y hy
      rcases List.mem_append.mp hy with hy | hy
      · have := hrs y hy; omega
      · rw [List.mem_singleton.mp hy]; exact xt
    · rintro H1 ⟨ns1, rs1, h1, h2, D1, a1, hd1, hrl1, hrs1⟩
      have h23 : (3 : Int).toNat = 3 := rfl
      -- for k in range(many)
      refine ⟨_, rfl, many, rfl, by omega, by omega, ?_⟩
      refine for_range (lo := 0) (n := many.toNat) (fun i σ' H' => ∃ (ns' : List Nd) (rs : List Nat) (x5 x7 x8 x9 : Option V), σ' = [some (.ref s), some (.ref bk), some (.int letters), some (.int many), some (.bl bx), x5, some (.ref d), x7, x8, x9] ∧ ns <+: ns' ∧ ns'.length ≤ ns.length + 3 + i ∧ Dw (d :: M) H' s bk b0 b1 bx ns' ∧ Adv [s, b0, b1] H H' ∧ H' d = some (.lst (nV rs)) ∧ rs.length = 3 + i ∧ ∀ r ∈ rs, r < ns'.length)
        ⟨ns1, rs1, none, none, none, none, rfl, h1, by omega, D1, a1, hd1, by omega, hrs1⟩ ?_ ?_
      · rintro i σ' H' hi ⟨ns', rs, x5, x7, x8, x9, rfl, h1, h2, D1, a1, hd, hrl, hrs⟩
        have hg := h1.length_le
        walk_at "rd"
        refine ⟨s, 3, d :: M, rfl, D1.str, by decide, by decide, fun e H2 e0 e1 hs2 a2 => ?_⟩
        have D2 := D1.next a2 hs2
        have hd2 := a2 _ _ (by simpa using ds) hd
        obtain ⟨t, ht⟩ : ∃ t : Nat, ((nV rs).length : Int) - 1 - e = (t : Int) := ⟨(((nV rs).length : Int) - 1 - e).toNat, by rw [nV_len]; omega⟩
        have htl : t < rs.length := by rw [nV_len] at ht; omega
        have hrt := hrs _ (List.getElem_mem htl)
        have hg2 := nV_at htl
        refine rd_i0 ?_
        rw [ht]
        walk_at "rd"
        refine ⟨s, d, nV rs, d :: M, rfl, hs2, .inl hd2, ds, by intro z; have := congrArg List.length z; rw [nV_len, List.length_nil] at this; omega, by rw [nV_len]; omega, fun ov H3 hov hs3 a3 => ?_⟩
        obtain ⟨o, ho, rfl⟩ := List.mem_map.mp hov
        have hol := hrs o ho
        have D3 := D2.next a3 hs3
        have hd3 := a3 _ _ (by simpa using ds) hd2
        have a13 : Adv [s, b0, b1] H H3 := (a1.trans (a_s a2)).trans (a_s a3)
        walk_at "rd"
        refine ⟨fun σ' H' => ∃ wd, σ' = [some (.ref s), some (.ref bk), some (.int letters), some (.int many), some (.bl bx), some (.int (0 + (i : Nat))), some (.ref d), some (.int (rs[t] : Nat)), some (.int (o : Nat)), some (.str wd)] ∧ wordOk bx wd ∧ Dw (d :: M) H' s bk b0 b1 bx ns' ∧ Adv [s, b0, b1] H H' ∧ H' d = some (.lst (nV rs)), ?_, ?_⟩
        · have word : ∀ (ws : List Str) (p : Addr) (Q' : VK), H3 p = none → ws ≠ [] → ws.length ≤ 10 → (∀ x ∈ ws, wordOk bx x) → (∀ wd H', wordOk bx wd → Dw (d :: M) H' s bk b0 b1 bx ns' → Adv [s, b0, b1] H H' → H' d = some (.lst (nV rs)) → Q' (.str wd) H') → spPick [.ref s, .ref p] (upd H3 p (.tup (ws.map V.str))) Q' E0 := by
            intro ws p Q' np hne hwl hok k
            have D4 := D3.same (Adv.new (o := .tup (ws.map V.str)) np)
            refine ⟨s, p, ws.map V.str, d :: M, rfl, D4.str, .inr upd_same, (D3.free np).2.1, by simpa using hne, by rw [List.length_map]; omega, fun x H5 hx hs5 a5 => ?_⟩
            obtain ⟨wd, hwd, rfl⟩ := List.mem_map.mp hx
            have ndp : d ≠ p := ne_of_none hd3 np
            exact k wd H5 (hok wd hwd) (D4.next a5 hs5) ((a13.newT np).trans (a_s a5)) (a5 _ _ (by simpa using ds) (by rw [upd_ne ndp]; exact hd3))
          cases bx with
          | true =>
            walk_at "rd"
            refine ⟨by show 6 ≤ sizeLine; decide, fun p np => ?_⟩
            walk_at "rd"
            exact word ["and", "or", "if", "if", "box", "box"] p _ np (by simp) (by simp) (by simp; exact ⟨.inl ⟨.and, rfl⟩, .inl ⟨.or, rfl⟩, .inl ⟨.imp, rfl⟩, .inr ⟨rfl, rfl⟩⟩) fun wd H' h1 h2 h3 h4 => ⟨wd, rfl, h1, h2, h3, h4⟩
          | false =>
            walk_at "rd"
            refine ⟨by show 4 ≤ sizeLine; decide, fun p np => ?_⟩
            walk_at "rd"
            exact word ["and", "or", "if", "if"] p _ np (by simp) (by simp) (by simp; exact ⟨.inl ⟨.and, rfl⟩, .inl ⟨.or, rfl⟩, .inl ⟨.imp, rfl⟩⟩) fun wd H' h1 h2 h3 h4 => ⟨wd, rfl, h1, h2, h3, h4⟩
        · rintro σ' H4 ⟨wd, rfl, hwd, D4, a4, hd4⟩
          have fin : ∀ {H5 : Hp} {n : Nd} {p : Addr} {σ' : L2.St} {Q' : L2.St → Hp → Prop}, Dw (d :: M) H5 s bk b0 b1 bx ns' → Adv [s, b0, b1] H H5 → H5 d = some (.lst (nV rs)) → H5 p = none → n.ok bx ns'.length = true →
              (∀ (ns2 : List Nd) (r : Nat) H6, ns <+: ns2 → ns2.length ≤ ns.length + 3 + (i + 1) → Dw (d :: M) (upd H6 d (.lst (nV (rs ++ [r])))) s bk b0 b1 bx ns2 → Adv [s, b0, b1] H (upd H6 d (.lst (nV (rs ++ [r])))) → (∀ y ∈ rs ++ [r], y < ns2.length) → Q' σ' (upd H6 d (.lst (nV (rs ++ [r]))))) →
              RowP [.ref bk, .ref p] (upd H5 p (.tup (n.keys.map kV))) fun x H1 => rAppend (.ref d) [x] H1 fun _ H2 => Q' σ' H2 := by
            intro H5 n p σ' Q' D5 a5 hd5 np hn k
            refine row_dn (c := 1) n D5 np hn (by omega) (List.prefix_refl _) (by omega) (Adv.refl _ _) fun r ns2 H6 x => ?_
            have hd6 := x.a _ _ dn hd5
            have xl := x.le
            have xg := x.ge
            have xt := x.lt
            refine rd_app hd6 (by rw [nV_len, sizeLine_eq]; omega) ?_
            rw [nV_snoc]
            exact k ns2 r H6 (h1.trans x.pre) (by omega) (x.D.put (by simp) ds d0 d1) ((a5.trans x.a).mut nd) fun y hy => by
              rcases List.mem_append.mp hy with hy | hy
              · have := hrs y hy; omega
              · rw [List.mem_singleton.mp hy]; exact xt
          rcases hwd with ⟨op, rfl⟩ | ⟨rfl, hbx⟩
          · walk_at "rd"
            refine iteN (by cases op <;> decide) ?_
            walk_at "rd"
            refine ⟨s, 2, d :: M, rfl, D4.str, by decide, by decide, fun e2 H5 g0 g1 hs5 a5 => ?_⟩
            have D5 := D4.next a5 hs5
            have hd5 := a5 _ _ (by simpa using ds) hd4
            walk_at "rd"
            refine iteB (fun _ => ?_) (fun _ => ?_)
            · walk_at "rd"
              refine ⟨by show 3 ≤ sizeLine; decide, fun p np => ?_⟩
              walk_at "rd"
              exact fin (n := .bin op o rs[t]) D5 (a4.trans (a_s a5)) hd5 np (by simp only [Nd.ok, Bool.and_eq_true, decide_eq_true_eq]; omega) fun ns2 r H6 k1 k2 k3 k4 k5 => ⟨ns2, rs ++ [r], _, _, _, _, rfl, k1, k2, k3, k4, upd_same, by rw [List.length_append, List.length_singleton]; omega, k5⟩
            · walk_at "rd"
              refine ⟨by show 3 ≤ sizeLine; decide, fun p np => ?_⟩
              walk_at "rd"
              exact fin (n := .bin op rs[t] o) D5 (a4.trans (a_s a5)) hd5 np (by simp only [Nd.ok, Bool.and_eq_true, decide_eq_true_eq]; omega) fun ns2 r H6 k1 k2 k3 k4 k5 => ⟨ns2, rs ++ [r], _, _, _, _, rfl, k1, k2, k3, k4, upd_same, by rw [List.length_append, List.length_singleton]; omega, k5⟩
          · walk_at "rd"
            refine ⟨by show 2 ≤ sizeLine; decide, fun p np => ?_⟩
            walk_at "rd"
            exact fin (n := .box rs[t]) D4 a4 hd4 np (by simp only [Nd.ok, Bool.and_eq_true, decide_eq_true_eq]; exact ⟨hbx, hrt⟩) fun ns2 r H6 k1 k2 k3 k4 k5 => ⟨ns2, rs ++ [r], _, _, _, _, rfl, k1, k2, k3, k4, upd_same, by rw [List.length_append, List.length_singleton]; omega, k5⟩
      · rintro σ' H' ⟨ns', rs, x5, x7, x8, x9, rfl, h1, h2, D1, a1, hd, hrl, hrs⟩
        obtain ⟨e, he⟩ : ∃ e : Nat, ((nV rs).length : Int) - 1 = (e : Int) := ⟨(nV rs).length - 1, by rw [nV_len]; omega⟩
        have hel : e < rs.length := by rw [nV_len] at he; omega
        have hg := nV_at hel
        walk_at "rd"
        rw [he]
        walk_at "rd"
        exact q rs[e] ns' H' ⟨h1, hrs _ (List.getElem_mem hel), by omega, D1.less (by simp +contextual) D.ms D.B.m0 D.B.m1, a1⟩
theorem ok_law_formula (A : All K mg w) (m : Nat) : FnOk P w K mg base CX0 (m + 4) A.law_formula.f A.law_formula.fd ["stream", "book", "letters", "many", "modal"] (spForm m) := by
  refine A.law_formula.F.ok sc_law_formula (fun vs H Q E h => ?_) (fun cdv Ar outer s H vs Q E hr h => ?_)
  · obtain ⟨M, s, bk, b0, b1, bx, ns, letters, many, rfl, _⟩ := h.ex
    rfl
  · obtain ⟨M, s, bk, b0, b1, bx, ns, letters, many, rfl, D, l0, l1, m0, mm, m1, hl, q⟩ := h.ex
    refine ⟨_, (pss_cons (ps_if (pt_cmpR op_eq (pe_call (ok_law_next A) (hr.mono (by omega)) rfl A.law_next.m A.law_next.F.kp A.law_next.b .nil pass0 (pa_cons (pv 0) (pa_cons pe_int pa_nil))) pe_int (nomark _))
    (pss_one (ps_ret (pe_call (ok_law_tree A m) (hr.mono (by omega)) rfl A.law_tree.m A.law_tree.F.kp A.law_tree.b .nil pass0 (pa_cons (pv 0) (pa_cons (pv 1) (pa_cons (pv 2) (pa_cons (pv 3) (pa_cons (pv 4) pa_nil))))))))
    pss_nil)
  (pss_one (ps_ret (pe_call (ok_law_heap A (m := m)) (hr.mono (by omega)) rfl A.law_heap.m A.law_heap.F.kp A.law_heap.b .nil pass0 (pa_cons (pv 0) (pa_cons (pv 1) (pa_cons (pv 2) (pa_cons (pv 3) (pa_cons (pv 4) pa_nil))))))))), ?_⟩
    walk_at "rd"
    refine ⟨s, 2, M, rfl, D.str, by decide, by decide, fun d H1 d0 d1 hs1 a1 => ?_⟩
    have D1 := D.next a1 hs1
    walk_at "rd"
    refine iteB (fun e => ?_) (fun e => ?_)
    · walk_at "rd"
      exact ⟨⟨M, s, bk, b0, b1, bx, ns, letters, many, rfl, D1, l0, l1, m0, mm, m1, hl, fun r ns' H' x => q r ns' H' ⟨x.pre, x.lt, by have := x.le; omega, x.D, (a_s a1).trans x.a⟩⟩⟩
    · walk_at "rd"
      exact ⟨⟨M, s, bk, b0, b1, bx, ns, letters, many, rfl, D1, l0, l1, m0, mm, m1, hl, fun r ns' H' x => q r ns' H' ⟨x.pre, x.lt, x.le, x.D, (a_s a1).trans x.a⟩⟩⟩
end
end K59

set_option Elab.async false
set_option linter.all false
set_option maxRecDepth 100000
set_option maxHeartbeats 400000
namespace K59
open PySem PySem.Spec PyProof.Rows L2 LL
open C8 (pss_cut)
local macro_rules | `(tactic| walk_at "ne") => `(tactic| first | assumption | (apply Ne.symm; assumption) | exact ne_of_none (by walk_at "hp") (by assumption) | exact (ne_of_none (by walk_at "hp") (by assumption)).symm)
local macro_rules | `(tactic| walk_at "nm") => `(tactic| first | assumption | exact notin0 | exact notin1 (by walk_at "ne") | exact notin2 (by walk_at "ne") (by walk_at "ne"))
local macro_rules | `(tactic| walk_at "hp") => `(tactic| first | assumption | exact upd_same | (refine Eq.trans (upd_ne ?ne) ?hh; (case hh => walk_at "hp"); (case ne => walk_at "ne")) | (refine Adv.get' (by assumption) ?hh ?nn; (case hh => walk_at "hp"); (case nn => walk_at "nm")))
local macro_rules | `(tactic| walk_at "tp") => `(tactic| first | assumption | exact Tp.adv (by walk_at "tp") (by assumption) | exact Tp.adv (by walk_at "tp") (Adv.nil (by assumption)))
local macro_rules | `(tactic| walk_at "sq") => `(tactic| first | assumption | exact Tp.sq (by assumption) (by walk_at "tp") | exact SqT.of (by walk_at "hp"))
local macro_rules | `(tactic| walk_at "at") => `(tactic| first | exact atI_nat (j := 0) rfl | exact atI_nat (j := 1) rfl | exact atI_nat (j := 2) rfl | exact atI_nat (j := 3) rfl | exact atI_nat (by assumption) | (rw [Int.zero_add]; exact atI_nat (by assumption)))
local macro_rules | `(tactic| walk_at "bb") => `(tactic| first | assumption | decide | exact rfl)
local macro_rules | `(tactic| walk_at "ci") => `(tactic| first | omega | (dsimp only; omega) | (unfold CDiv; omega) | (unfold CMul; omega))
local macro_rules | `(tactic| walk_at "rd1") => `(tactic| first
  | with_reducible refine rd_c ?_
  | ((with_reducible refine' rd_var ?rh ?_); (case rh => exact rfl))
  | with_reducible refine rd_op ?_
  | with_reducible refine rd_seq ?_
  | with_reducible refine rd_asg ?_
  | with_reducible refine rd_gname ?_
  | with_reducible refine rd_ifS ?_
  | with_reducible refine rd_test ?_
  | with_reducible refine rd_tB ?_
  | with_reducible refine rd_blP ?_
  | ((with_reducible refine' iteY ?rh ?_); (case rh => walk_at "bb"))
  | ((with_reducible refine' iteN ?rh ?_); (case rh => walk_at "bb"))
  | with_reducible refine rd_ret ?_
  | with_reducible refine rd_nx ?_
  | ((with_reducible refine' rd_eq ?rh ?_); (case rh => exact rfl))
  | ((with_reducible refine' rd_ne ?rh ?_); (case rh => exact rfl))
  | with_reducible refine rd_add ?_
  | with_reducible refine rd_sub ?_
  | with_reducible refine rd_i0 ?_
  | with_reducible refine rd_and ?_
  | with_reducible refine rd_or ?_
  | with_reducible refine rd_not ?_
  | with_reducible refine rd_andV ?_
  | with_reducible refine rd_orV ?_
  | with_reducible refine rd_notV ?_
  | with_reducible refine rd_ifE ?_
  | with_reducible refine rd_isN ?_
  | with_reducible refine rd_notN ?_
  | with_reducible refine rd_cons ?_
  | with_reducible refine rd_nil ?_
  | with_reducible refine rd_tup ?_
  | with_reducible refine rd_lst ?_
  | with_reducible refine rd_call ?_
  | with_reducible refine rd_cb ?_
  | with_reducible refine rd_meth ?_
  | with_reducible refine rd_callS ?_
  | with_reducible refine rd_make ?_
  | with_reducible refine rd_rfl ?_
  | with_reducible refine rd_fld ?_
  | with_reducible refine rd_drop ?_
  | with_reducible refine rd_gsub ?_
  | with_reducible refine rd_gcons ?_
  | with_reducible refine rd_gnil ?_
  | with_reducible refine rd_par ?_
  | with_reducible refine rd_two ?_
  | with_reducible refine rd_par3 ?_
  | with_reducible refine rd_three ?_
  | with_reducible refine rd_int1 ?_
  | ((with_reducible refine' rd_i ?rh ?_); (case rh => walk_at "ci"))
  | with_reducible refine rd_part ?_
  | with_reducible refine rd_nopart ?_
  | with_reducible refine rd_int ?_
  | with_reducible refine rd_sl ?_
  | with_reducible refine rd_bm ?_
  | with_reducible refine rd_bm0 ?_
  | with_reducible refine rd_dgetT ?_
  | with_reducible refine rd_din ?_
  | with_reducible refine rd_dnin ?_
  | with_reducible refine rd_un ?_
  | ((with_reducible refine' rd_ixL ?rh ?re ?_); (case rh => walk_at "hp"); (case re => walk_at "at"))
  | ((with_reducible refine' rd_ixT ?rh ?re ?_); (case rh => walk_at "sq"); (case re => walk_at "at"))
  | ((with_reducible refine' rd_lenT ?rh ?_); (case rh => walk_at "sq"))
  | ((with_reducible refine' rd_tyL ?rh ?_); (case rh => walk_at "hp"))
  | ((with_reducible refine' rd_len ?rh ?_); (case rh => walk_at "hp"))
  | with_reducible refine rd_for ?_
  | with_reducible refine rd_rng1 ?_
  | with_reducible refine rd_rng2 ?_
  | with_reducible refine rd_ints1 ?_
  | with_reducible refine rd_ints2 ?_
  | with_reducible refine rd_retN ?_)
local macro_rules | `(tactic| walk_at "rd") => `(tactic| repeat walk_at "rd1")
section
variable [KW]
variable {P : Program} {w : World} {K : PySem.W.Frag} {mg : Str → Option Value} {base : Heap}
/-! ### _law_long -/
structure LongP (vs : List V) (H : Hp) (Q : VK) : Prop where
  ex : ∃ (M : List Addr) (s wt : Addr) (many : Int) (ws : List Str), vs = [.ref s, .int many, .ref wt] ∧ StrAt M H s ∧ s ∈ M ∧ (∀ b ∈ M, H b ≠ none) ∧ H wt = some (.tup (ws.map V.str)) ∧ ws ≠ [] ∧ ws.length ≤ 10 ∧ 5 ≤ many ∧ many ≤ 5001 ∧ wt ≠ s ∧
    ∀ L rs H', H L = none → H' L = some (.lst rs) → RwDs M H' rs → rs.length = many.toNat → StrAt M H' s → Adv [s] H H' → Q (.ref L) H'
def spLong : Sp := fun vs H Q _ => LongP vs H Q
theorem ok_law_long (A : All K mg w) : FnOk P w K mg base CX0 3 A.law_long.f A.law_long.fd ["stream", "many", "words"] spLong := by
  refine A.law_long.F.ok sc_law_long (fun vs H Q E h => ?_) (fun cdv Ar outer s H vs Q E hr h => ?_)
  · obtain ⟨M, s, wt, many, ws, rfl, _⟩ := h.ex
    rfl
  · obtain ⟨M, s, wt, many, ws, rfl, hs, ms, hal, hwt, hwn, hwl, m0, m1, nws, q⟩ := h.ex
    refine ⟨_, (pss_cons (ps_par3 (i := 3) (j := 4) (l := 5) (by rfl) sc_law_long.nd rfl rfl rfl (by decide) (by decide) (by decide) rfl rfl rfl (pa_cons (pe_call (ok_law_from A) (hr.mono (by omega)) rfl A.law_from.m A.law_from.F.kp A.law_from.b .nil pass0 (pa_cons (pv 0) (pa_cons pe_int (pa_cons pe_int pa_nil)))) (pa_cons (pe_call (ok_law_from A) (hr.mono (by omega)) rfl A.law_from.m A.law_from.F.kp A.law_from.b .nil pass0 (pa_cons (pv 0) (pa_cons pe_int (pa_cons pe_int pa_nil)))) (pa_cons (pe_call (ok_law_next A) (hr.mono (by omega)) rfl A.law_next.m A.law_next.F.kp A.law_next.b .nil pass0 (pa_cons (pv 0) (pa_cons pe_int pa_nil))) pa_nil))) (by rfl))
  (pss_cons (ps_set (i := 6) sc_law_long.nd rfl (Or.inl rfl) (pe_lst (pa_cons (pe_tup (pa_cons pe_str (pa_cons pe_int pa_nil))) (pa_cons (pe_tup (pa_cons pe_str (pa_cons pe_int pa_nil))) (pa_cons (pe_tup (pa_cons pe_str pa_nil)) (pa_cons (pe_tup (pa_cons pe_str (pa_cons pe_int pa_nil))) (pa_cons (pe_tup (pa_cons pe_str (pa_cons pe_int pa_nil))) pa_nil)))))))
  (pss_cons (ps_for PassesOwn.never rfl (pi_range2 rfl A.T.range (pa_cons pe_int (pa_cons (pv 1) pa_nil))) (pg_name (i := 7) sc_law_long.nd rfl (Or.inl rfl))
    (pss_cons (ps_set (i := 8) sc_law_long.nd rfl (Or.inl rfl) (pe_ix ix_tup (pv 2) (pe_op op_mod (pe_callTy call_int1 (by rfl) A.T.int (by decide +kernel) (pa_cons (pe_op op_add (pe_op op_mul (pv 3) (pv 7)) (pe_op op_fdiv (pe_op op_mul (pv 7) (pv 7)) pe_int)) pa_nil)) (pe_callB call_len_seq (by rfl) A.T.len PySem.boot_len (pa_cons (pv 2) pa_nil))) (fun _ _ => rfl)))
  (pss_cons (ps_set (i := 9) sc_law_long.nd rfl (Or.inl rfl) (pe_op op_mod (pe_callTy call_int1 (by rfl) A.T.int (by decide +kernel) (pa_cons (pe_op op_add (pe_op op_mul (pv 4) (pv 7)) (pv 5)) pa_nil)) (pv 7)))
  (pss_one (ps_if (pt_cmpR op_eq (pv 8) pe_str (nomark _))
    (pss_one (ps_expr (pe_bm PySem.F.plainAttrs_list PySem.F.slot_list_append PySem.F.type_list_append mt_append (pv 6) (pa_cons (pe_tup (pa_cons (pv 8) (pa_cons (pe_op op_sub (pv 7) pe_int) pa_nil))) pa_nil))))
    (pss_one (ps_expr (pe_bm PySem.F.plainAttrs_list PySem.F.slot_list_append PySem.F.type_list_append mt_append (pv 6) (pa_cons (pe_ifExp (pt_cmpR op_eq (pe_op op_mod (pe_callTy call_int1 (by rfl) A.T.int (by decide +kernel) (pa_cons (pe_op op_add (pv 7) (pv 3)) pa_nil)) pe_int) pe_int (nomark _)) (pe_tup (pa_cons (pv 8) (pa_cons (pe_op op_sub (pv 7) pe_int) (pa_cons (pv 9) pa_nil)))) (pe_tup (pa_cons (pv 8) (pa_cons (pv 9) (pa_cons (pe_op op_sub (pv 7) pe_int) pa_nil))))) pa_nil)))))))))
  (pss_one (ps_ret (pv 6)))))), ?_⟩
    walk_at "rd"
    refine ⟨s, 1, 996, M, rfl, hs, by decide, by decide, fun a H1 a0 a1 hs1 g1 => ?_⟩
    walk_at "rd"
    refine ⟨s, 1, 996, M, rfl, hs1, by decide, by decide, fun b H2 b0 b1 hs2 g2 => ?_⟩
    walk_at "rd"
    refine ⟨s, 997, M, rfl, hs2, by decide, by decide, fun c H3 c0 c1 hs3 g3 => ?_⟩
    have g03 : Adv [s] H H3 := (g1.trans g2).trans g3
    have al3 : ∀ b ∈ M, H3 b ≠ none := alloc_adv hal g03 (by simpa using hs3.here)
    have hwt3 := g03 _ _ (by simpa using nws) hwt
    walk_at "rd"
    refine ⟨by show 2 ≤ sizeLine; decide, fun p1 n1 => ?_⟩
    walk_at "rd"
    refine ⟨by show 2 ≤ sizeLine; decide, fun p2 n2 => ?_⟩
    walk_at "rd"
    refine ⟨by show 1 ≤ sizeLine; decide, fun p3 n3 => ?_⟩
    walk_at "rd"
    refine ⟨by show 2 ≤ sizeLine; decide, fun p4 n4 => ?_⟩
    walk_at "rd"
    refine ⟨by show 2 ≤ sizeLine; decide, fun p5 n5 => ?_⟩
    walk_at "rd"
    refine ⟨by show 5 ≤ sizeLine; decide, fun D nD => ?_⟩
    have e1 : Adv [] H3 _ := Adv.new (o := .tup [V.str "letter", .int 3]) n1
    have i1 := rw_new (ks := [.inr "letter", .inl 3]) al3 n1 (by simp)
    have al4 := alloc_adv al3 e1 (by simp)
    have e2 : Adv [] _ _ := Adv.new (o := .tup [V.str "letter", .int 0]) n2
    have i2 := rw_new (ks := [.inr "letter", .inl 0]) al4 n2 (by simp)
    have al5 := alloc_adv al4 e2 (by simp)
    have e3 : Adv [] _ _ := Adv.new (o := .tup [V.str "no"]) n3
    have i3 := rw_new (ks := [.inr "no"]) al5 n3 (by simp)
    have al6 := alloc_adv al5 e3 (by simp)
    have e4 : Adv [] _ _ := Adv.new (o := .tup [V.str "letter", .int 7]) n4
    have i4 := rw_new (ks := [.inr "letter", .inl 7]) al6 n4 (by simp)
    have al7 := alloc_adv al6 e4 (by simp)
    have e5 : Adv [] _ _ := Adv.new (o := .tup [V.str "letter", .int 5]) n5
    have i5 := rw_new (ks := [.inr "letter", .inl 5]) al7 n5 (by simp)
    have al8 := alloc_adv al7 e5 (by simp)
    have eD : Adv [] _ _ := Adv.new (o := .lst [.ref p1, .ref p2, .ref p3, .ref p4, .ref p5]) nD
    have x5 : RwDs M _ [.ref p1, .ref p2, .ref p3, .ref p4, .ref p5] := .cons (i1.adv (Adv.nil (((e2.trans e3).trans e4).trans e5))) (.cons (i2.adv (Adv.nil ((e3.trans e4).trans e5))) (.cons (i3.adv (Adv.nil (e4.trans e5))) (.cons (i4.adv (Adv.nil e5)) (.cons i5 .nil))))
    have e15 := ((((e1.trans e2).trans e3).trans e4).trans e5)
    have nD3 : H3 D = none := e15.free (by simp) nD
    have xD : ∀ {vs : List V} {Hx : Hp}, Hx D = none → RwDs M Hx vs → RwDs (D :: M) Hx vs := fun hn x => x.fresh hn
    have eAll := e15.trans eD
    have hsD := (hs3.fresh nD3).same eAll
    have nDH : H D = none := g03.free (fun z => hs3.here (by rw [← List.mem_singleton.mp z]; exact nD3)) nD3
    walk_at "rd"
    refine ⟨⟨by omega, by omega, by omega, by omega⟩, ?_⟩
    refine for_range (lo := 5) (n := (many - 5).toNat) (fun i σ' H' => ∃ (rs : List V) (x7 x8 x9 : Option V), σ' = [some (.ref s), some (.int many), some (.ref wt), some (.int a), some (.int b), some (.int c), some (.ref D), x7, x8, x9] ∧ H' D = some (.lst rs) ∧ rs.length = 5 + i ∧ RwDs (D :: M) H' rs ∧ StrAt (D :: M) H' s ∧ Adv [] H3 H')
      ⟨_, none, none, none, rfl, upd_same, rfl, (xD nD x5).adv (Adv.nil eD), hsD, eAll⟩ ?_ ?_
    · rintro i σ' H' hi ⟨rs, x7, x8, x9, rfl, hD, hl, hx, hs', a'⟩
      have hi' : (i : Int) < many - 5 := by omega
      have hwt' : SqT K H' wt (ws.map V.str) := SqT.of (a'.same _ _ hwt3)
      have hwl' : (ws.map V.str).length = ws.length := List.length_map ..
      have hwp : 0 < ws.length := List.length_pos_iff.mpr hwn
      have al' : ∀ b ∈ D :: M, H' b ≠ none := fun b hb => by
        rcases List.mem_cons.mp hb with z | hb
        · rw [z, hD]; simp
        · exact alloc_adv al3 a' (by simp) b hb
      walk_at "rd"
      generalize (a * (5 + (i : Int)) + (5 + (i : Int)) * (5 + (i : Int)) / 7) = X
      have y1 := Int.emod_nonneg X (show ((ws.map V.str).length : Int) ≠ 0 by omega)
      have y2 := Int.emod_lt_of_pos X (show (0 : Int) < ((ws.map V.str).length : Int) by omega)
      obtain ⟨t, ht⟩ : ∃ t : Nat, X % ((ws.map V.str).length : Int) = (t : Int) := ⟨(X % ((ws.map V.str).length : Int)).toNat, by omega⟩
      rw [ht]
      have hg : (ws.map V.str)[t]? = some (.str (ws[t]'(by omega))) := by rw [List.getElem?_map, List.getElem?_eq_getElem (by omega)]; rfl
      walk_at "rd"
      have fin : ∀ (ks : List Key) {p : Addr} {σ' : L2.St} {Q' : L2.St → Hp → Prop}, H' p = none → ks.length ≤ 3 → (∀ rs' H6, H6 D = some (.lst rs') → rs'.length = 5 + (i + 1) → RwDs (D :: M) H6 rs' → StrAt (D :: M) H6 s → Adv [] H3 H6 → Q' σ' H6) →
          rAppend (.ref D) [.ref p] (upd H' p (.tup (ks.map kV))) fun _ H2 => Q' σ' H2 := by
        intro ks p σ' Q' np hxl k
        have c1 : Adv [] H' (upd H' p (.tup (ks.map kV))) := Adv.new np
        have i1 := rw_new al' np hxl
        refine rd_app (c1.same _ _ hD) (by rw [sizeLine_eq]; omega) ?_
        have c2 : Adv [D] (upd H' p (.tup (ks.map kV))) (upd (upd H' p (.tup (ks.map kV))) D (.lst (rs ++ [.ref p]))) := Adv.set (by simp)
        have c3 : Adv [D] H' (upd (upd H' p (.tup (ks.map kV))) D (.lst (rs ++ [.ref p]))) := (Adv.nil c1).trans c2
        have sD : s ≠ D := fun z => hs3.here (by rw [z]; exact nD3)
        refine k _ _ upd_same (by rw [List.length_append, List.length_singleton]; omega) ((hx.adv (c3.more (by simp))).app (.cons (i1.adv (c2.more (by simp))) .nil)) (hs'.adv c3 (by simpa using sD) (by simp)) ((a'.trans c1).mut nD3)
      refine iteB (fun e => ?_) (fun e => ?_)
      · walk_at "rd"
        refine ⟨by show 2 ≤ sizeLine; decide, fun p np => ?_⟩
        walk_at "rd"
        exact fin [.inr _, .inl _] np (by simp) fun rs' H6 k1 k2 k3 k4 k5 => ⟨rs', _, _, _, rfl, k1, k2, k3, k4, k5⟩
      · walk_at "rd"
        refine iteB (fun e => ?_) (fun e => ?_)
        · walk_at "rd"
          refine ⟨by show 3 ≤ sizeLine; decide, fun p np => ?_⟩
          walk_at "rd"
          exact fin [.inr _, .inl _, .inl _] np (by simp) fun rs' H6 k1 k2 k3 k4 k5 => ⟨rs', _, _, _, rfl, k1, k2, k3, k4, k5⟩
        · walk_at "rd"
          refine ⟨by show 3 ≤ sizeLine; decide, fun p np => ?_⟩
          walk_at "rd"
          exact fin [.inr _, .inl _, .inl _] np (by simp) fun rs' H6 k1 k2 k3 k4 k5 => ⟨rs', _, _, _, rfl, k1, k2, k3, k4, k5⟩
    · rintro σ' H' ⟨rs, x7, x8, x9, rfl, hD, hl, hx, hs', a'⟩
      walk_at "rd"
      obtain ⟨ds, h, z⟩ := hx
      exact q D rs H' nDH hD ⟨ds, h.less (by simp +contextual), z⟩ (by omega) (hs'.less (by simp +contextual)) (g03.trans (Adv.nil a'))
end
end K59

set_option Elab.async false
set_option linter.all false
set_option maxRecDepth 100000
set_option maxHeartbeats 400000
namespace K59
open PySem PySem.Spec PyProof.Rows L2 LL
open C8 (pss_cut)
local macro_rules | `(tactic| walk_at "ne") => `(tactic| first | assumption | (apply Ne.symm; assumption) | exact ne_of_none (by walk_at "hp") (by assumption) | exact (ne_of_none (by walk_at "hp") (by assumption)).symm)
local macro_rules | `(tactic| walk_at "nm") => `(tactic| first | assumption | exact notin0 | exact notin1 (by walk_at "ne") | exact notin2 (by walk_at "ne") (by walk_at "ne"))
local macro_rules | `(tactic| walk_at "hp") => `(tactic| first | assumption | exact upd_same | (refine Eq.trans (upd_ne ?ne) ?hh; (case hh => walk_at "hp"); (case ne => walk_at "ne")) | (refine Adv.get' (by assumption) ?hh ?nn; (case hh => walk_at "hp"); (case nn => walk_at "nm")))
local macro_rules | `(tactic| walk_at "tp") => `(tactic| first | assumption | exact Tp.adv (by walk_at "tp") (by assumption) | exact Tp.adv (by walk_at "tp") (Adv.nil (by assumption)))
local macro_rules | `(tactic| walk_at "sq") => `(tactic| first | assumption | exact Tp.sq (by assumption) (by walk_at "tp") | exact SqT.of (by walk_at "hp"))
local macro_rules | `(tactic| walk_at "at") => `(tactic| first | exact atI_nat (j := 0) rfl | exact atI_nat (j := 1) rfl | exact atI_nat (j := 2) rfl | exact atI_nat (j := 3) rfl | exact atI_nat (by assumption) | (rw [Int.zero_add]; exact atI_nat (by assumption)))
local macro_rules | `(tactic| walk_at "bb") => `(tactic| first | assumption | decide | exact rfl)
local macro_rules | `(tactic| walk_at "ci") => `(tactic| first | omega | (dsimp only; omega) | (unfold CDiv; omega) | (unfold CMul; omega))
local macro_rules | `(tactic| walk_at "rd1") => `(tactic| first
  | with_reducible refine rd_c ?_
  | ((with_reducible refine' rd_var ?rh ?_); (case rh => exact rfl))
  | with_reducible refine rd_op ?_
  | with_reducible refine rd_seq ?_
  | with_reducible refine rd_asg ?_
  | with_reducible refine rd_gname ?_
  | with_reducible refine rd_ifS ?_
  | with_reducible refine rd_test ?_
  | with_reducible refine rd_tB ?_
  | with_reducible refine rd_blP ?_
  | ((with_reducible refine' iteY ?rh ?_); (case rh => walk_at "bb"))
  | ((with_reducible refine' iteN ?rh ?_); (case rh => walk_at "bb"))
  | with_reducible refine rd_ret ?_
  | with_reducible refine rd_nx ?_
  | ((with_reducible refine' rd_eq ?rh ?_); (case rh => exact rfl))
  | ((with_reducible refine' rd_ne ?rh ?_); (case rh => exact rfl))
  | with_reducible refine rd_add ?_
  | with_reducible refine rd_sub ?_
  | with_reducible refine rd_i0 ?_
  | with_reducible refine rd_and ?_
  | with_reducible refine rd_or ?_
  | with_reducible refine rd_not ?_
  | with_reducible refine rd_andV ?_
  | with_reducible refine rd_orV ?_
  | with_reducible refine rd_notV ?_
  | with_reducible refine rd_ifE ?_
  | with_reducible refine rd_isN ?_
  | with_reducible refine rd_notN ?_
  | with_reducible refine rd_cons ?_
  | with_reducible refine rd_nil ?_
  | with_reducible refine rd_tup ?_
  | with_reducible refine rd_lst ?_
  | with_reducible refine rd_call ?_
  | with_reducible refine rd_cb ?_
  | with_reducible refine rd_meth ?_
  | with_reducible refine rd_callS ?_
  | with_reducible refine rd_make ?_
  | with_reducible refine rd_rfl ?_
  | with_reducible refine rd_fld ?_
  | with_reducible refine rd_drop ?_
  | with_reducible refine rd_gsub ?_
  | with_reducible refine rd_gcons ?_
  | with_reducible refine rd_gnil ?_
  | with_reducible refine rd_par ?_
  | with_reducible refine rd_two ?_
  | with_reducible refine rd_par3 ?_
  | with_reducible refine rd_three ?_
  | with_reducible refine rd_int1 ?_
  | ((with_reducible refine' rd_i ?rh ?_); (case rh => walk_at "ci"))
  | with_reducible refine rd_part ?_
  | with_reducible refine rd_nopart ?_
  | with_reducible refine rd_int ?_
  | with_reducible refine rd_sl ?_
  | with_reducible refine rd_bm ?_
  | with_reducible refine rd_bm0 ?_
  | with_reducible refine rd_dgetT ?_
  | with_reducible refine rd_din ?_
  | with_reducible refine rd_dnin ?_
  | with_reducible refine rd_un ?_
  | ((with_reducible refine' rd_ixL ?rh ?re ?_); (case rh => walk_at "hp"); (case re => walk_at "at"))
  | ((with_reducible refine' rd_ixT ?rh ?re ?_); (case rh => walk_at "sq"); (case re => walk_at "at"))
  | ((with_reducible refine' rd_lenT ?rh ?_); (case rh => walk_at "sq"))
  | ((with_reducible refine' rd_tyL ?rh ?_); (case rh => walk_at "hp"))
  | ((with_reducible refine' rd_len ?rh ?_); (case rh => walk_at "hp"))
  | with_reducible refine rd_for ?_
  | with_reducible refine rd_rng1 ?_
  | with_reducible refine rd_rng2 ?_
  | with_reducible refine rd_ints1 ?_
  | with_reducible refine rd_ints2 ?_
  | with_reducible refine rd_retN ?_)
local macro_rules | `(tactic| walk_at "rd") => `(tactic| repeat walk_at "rd1")
section
variable [KW]
variable {P : Program} {w : World} {K : PySem.W.Frag} {mg : Str → Option Value} {base : Heap}
/-! ### _law_sheet -/
structure SheetP (vs : List V) (H : Hp) (Q : VK) : Prop where
  ex : ∃ (M : List Addr) (s : Addr) (wd : W3), vs = [.ref s, .str wd.str] ∧ StrAt M H s ∧ s ∈ M ∧ (∀ b ∈ M, H b ≠ none) ∧
    ∀ L rs H', H L = none → H' L = some (.lst rs) → RwDs M H' rs → 1 ≤ rs.length → rs.length ≤ 20000 → StrAt M H' s → Adv [s] H H' → Q (.ref L) H'
def spSheet : Sp := fun vs H Q _ => SheetP vs H Q
def bnd : Nat → Nat
  | 0 => 0
  | i + 1 => 9 * (bnd i + 19)
theorem bnd_le {i : Nat} (h : i ≤ 3) : bnd i ≤ 15561 := by
  have : i = 0 ∨ i = 1 ∨ i = 2 ∨ i = 3 := by omega
  rcases this with rfl | rfl | rfl | rfl <;> decide
theorem bnd_le2 {i : Nat} (h : i ≤ 2) : bnd i ≤ 1710 := by
  have : i = 0 ∨ i = 1 ∨ i = 2 := by omega
  rcases this with rfl | rfl | rfl <;> decide
theorem ok_law_sheet (A : All K mg w) : FnOk P w K mg base CX0 17 A.law_sheet.f A.law_sheet.fd ["stream", "word"] spSheet := by
  refine A.law_sheet.F.ok sc_law_sheet (fun vs H Q E h => ?_) (fun cdv Ar outer s H vs Q E hr h => ?_)
  · obtain ⟨M, s, wd, rfl, _⟩ := h.ex
    rfl
  · obtain ⟨M, s, wd, rfl, hs, ms, hal, q⟩ := h.ex
    refine ⟨_, (pss_cons (ps_par (i := 2) (j := 3) (by rfl) sc_law_sheet.nd rfl rfl (by decide) rfl rfl (pa_cons (pe_call (ok_law_next A) (hr.mono (by omega)) rfl A.law_next.m A.law_next.F.kp A.law_next.b .nil pass0 (pa_cons (pv 0) (pa_cons pe_int pa_nil))) (pa_cons (pe_cmpR op_eq (pv 1) pe_str (nomark _)) pa_nil)) (by rfl))
  (pss_cut (ps_set (i := 4) sc_law_sheet.nd rfl (Or.inl rfl) (pe_ifExp (pt_val (pv 3)) (pe_tup (pa_cons pe_str (pa_cons pe_str (pa_cons pe_str (pa_cons pe_str (pa_cons pe_str pa_nil)))))) (pe_tup (pa_cons pe_str (pa_cons pe_str (pa_cons pe_str pa_nil))))))
  (pss_cons (ps_if (pt_cmpR op_eq (pv 2) pe_int (nomark _))
    (pss_one (ps_ret (pe_call (ok_law_long A) (hr.mono (by omega)) rfl A.law_long.m A.law_long.F.kp A.law_long.b .nil pass0 (pa_cons (pv 0) (pa_cons (pe_call (ok_law_pick A) (hr.mono (by omega)) rfl A.law_pick.m A.law_pick.F.kp A.law_pick.b .nil pass0 (pa_cons (pv 0) (pa_cons (pe_tup (pa_cons pe_int (pa_cons pe_int (pa_cons (pe_call (ok_law_from A) (hr.mono (by omega)) rfl A.law_from.m A.law_from.F.kp A.law_from.b .nil pass0 (pa_cons (pv 0) (pa_cons pe_int (pa_cons pe_int pa_nil)))) pa_nil)))) pa_nil))) (pa_cons (pv 4) pa_nil))))))
    pss_nil)
  (pss_cons (ps_if (pt_cmpR op_lt (pv 2) pe_int (nomark _))
    (pss_one (ps_ret (pe_call (ok_law_long A) (hr.mono (by omega)) rfl A.law_long.m A.law_long.F.kp A.law_long.b .nil pass0 (pa_cons (pv 0) (pa_cons (pe_call (ok_law_from A) (hr.mono (by omega)) rfl A.law_from.m A.law_from.F.kp A.law_from.b .nil pass0 (pa_cons (pv 0) (pa_cons pe_int (pa_cons pe_int pa_nil)))) (pa_cons (pv 4) pa_nil))))))
    pss_nil)
  (pss_cons (ps_set (i := 5) sc_law_sheet.nd rfl (Or.inl rfl) (pe_lst (pa_cons (pe_lst pa_nil) (pa_cons (pe_dnewX A.W) pa_nil))))
  (pss_cons (ps_for PassesOwn.never rfl (pi_range1 rfl A.T.range (pa_cons (pe_call (ok_law_from A) (hr.mono (by omega)) rfl A.law_from.m A.law_from.F.kp A.law_from.b .nil pass0 (pa_cons (pv 0) (pa_cons pe_int (pa_cons pe_int pa_nil)))) pa_nil)) (pg_name (i := 6) sc_law_sheet.nd rfl (Or.inl rfl))
    (pss_cons (ps_set (i := 7) sc_law_sheet.nd rfl (Or.inl rfl) (pe_call (ok_law_formula A 12) (hr.mono (by omega)) rfl A.law_formula.m A.law_formula.F.kp A.law_formula.b .nil pass0 (pa_cons (pv 0) (pa_cons (pv 5) (pa_cons (pe_call (ok_law_from A) (hr.mono (by omega)) rfl A.law_from.m A.law_from.F.kp A.law_from.b .nil pass0 (pa_cons (pv 0) (pa_cons pe_int (pa_cons pe_int pa_nil)))) (pa_cons (pe_call (ok_law_next A) (hr.mono (by omega)) rfl A.law_next.m A.law_next.F.kp A.law_next.b .nil pass0 (pa_cons (pv 0) (pa_cons pe_int pa_nil))) (pa_cons (pv 3) pa_nil)))))))
  (pss_one (ps_if (pt_cmpR op_eq (pe_call (ok_law_next A) (hr.mono (by omega)) rfl A.law_next.m A.law_next.F.kp A.law_next.b .nil pass0 (pa_cons (pv 0) (pa_cons pe_int pa_nil))) pe_int (nomark _))
    (pss_one (ps_expr (pe_call (ok_law_read A) (hr.mono (by omega)) rfl A.law_read.m A.law_read.F.kp A.law_read.b .nil pass0 (pa_cons (pe_ifExp (pt_val (pv 3)) pe_str pe_str) (pa_cons (pv 5) (pa_cons (pe_lst (pa_cons (pv 7) pa_nil)) pa_nil))))))
    pss_nil))))
  (pss_one (ps_ret (pe_ix ix_list (pv 5) pe_int (fun _ _ => rfl)))))))))), ?_⟩
    walk_at "rd"
    refine ⟨s, 60, M, rfl, hs, by decide, by decide, fun kd H1 k0 k1 hs1 a1 => ?_⟩
    walk_at "rd"
    rw [w3_dou]
    have alM : ∀ {H'}, Adv [s] H H' → StrAt M H' s → ∀ b ∈ M, H' b ≠ none := fun a h => alloc_adv hal a (by simpa using h.here)
    have frM : ∀ {H' p}, Adv [s] H H' → StrAt M H' s → H' p = none → H p = none := fun a h n => Adv.free a (fun z => h.here (by rw [← List.mem_singleton.mp z]; exact n)) n
    refine ⟨fun σ' H' => ∃ wt ws, σ' = [some (.ref s), some (.str wd.str), some (.int kd), some (.bl wd.boxes), some (.ref wt), none, none, none] ∧ H' wt = some (.tup (ws.map V.str)) ∧ ws ≠ [] ∧ ws.length ≤ 10 ∧ wt ≠ s ∧ StrAt M H' s ∧ Adv [s] H H', ?_, ?_⟩
    · cases hb : wd.boxes with
      | true =>
        walk_at "rd"
        refine ⟨by show 5 ≤ sizeLine; decide, fun p np => ?_⟩
        exact ⟨p, ["and", "or", "if", "box", "if"], rfl, upd_same, by simp, by simp, fun z => hs1.here (by rw [← z]; exact np), hs1.same (Adv.new np), a1.trans (Adv.nil (Adv.new np))⟩
      | false =>
        walk_at "rd"
        refine ⟨by show 3 ≤ sizeLine; decide, fun p np => ?_⟩
        exact ⟨p, ["and", "or", "if"], rfl, upd_same, by simp, by simp, fun z => hs1.here (by rw [← z]; exact np), hs1.same (Adv.new np), a1.trans (Adv.nil (Adv.new np))⟩
    · rintro σ' H2 ⟨wt, ws, rfl, hwt, hwn, hwl, wts, hs2, a2⟩
      have long : ∀ {many : Int} {H3 : Hp}, Adv [s] H2 H3 → StrAt M H3 s → 5 ≤ many → many ≤ 5001 → LongP [.ref s, .int many, .ref wt] H3 Q := by
        intro many H3 a3 hs3 m0 m1
        refine ⟨⟨M, s, wt, many, ws, rfl, hs3, ms, alM (a2.trans a3) hs3, a3 _ _ (by simpa using wts) hwt, hwn, hwl, m0, m1, wts, fun L rs H' nL hL x l hs' a' => q L rs H' (frM (a2.trans a3) hs3 nL) hL x (by omega) (by omega) hs' ((a2.trans a3).trans a')⟩⟩
      walk_at "rd"
      refine iteB (fun e => ?_) (fun e => ?_)
      · walk_at "rd"
        refine ⟨s, 1000, 4999, M, rfl, hs2, by decide, by decide, fun x H3 x0 x1 hs3 a3 => ?_⟩
        walk_at "rd"
        refine ⟨by show 3 ≤ sizeLine; decide, fun p np => ?_⟩
        walk_at "rd"
        have ap : Adv [] H3 (upd H3 p (.tup [.int 5000, .int 5001, .int x])) := Adv.new np
        refine ⟨s, p, [.int 5000, .int 5001, .int x], M, rfl, hs3.same ap, .inr upd_same, fun z => hs3.here (by rw [← z]; exact np), by simp, by simp, fun y H4 hy hs4 a4 => ?_⟩
        obtain ⟨m, rfl, m0, m1⟩ : ∃ m : Int, y = V.int m ∧ 5 ≤ m ∧ m ≤ 5001 := by
          simp at hy
          rcases hy with h | h | h <;> exact ⟨_, h, by omega, by omega⟩
        walk_at "rd"
        exact long ((a3.trans (Adv.nil ap)).trans a4) hs4 m0 m1
      · walk_at "rd"
        refine iteB (fun e => ?_) (fun e => ?_)
        · walk_at "rd"
          refine ⟨s, 61, 300, M, rfl, hs2, by decide, by decide, fun x H3 x0 x1 hs3 a3 => ?_⟩
          walk_at "rd"
          exact long a3 hs3 (by omega) (by omega)
        · walk_at "rd"
          refine ⟨Nat.zero_le _, fun b0 n0 => ?_⟩
          walk_at "rd"
          intro b1 n1
          walk_at "rd"
          refine ⟨by show 2 ≤ sizeLine; decide, fun bk nk => ?_⟩
          have D0 := Dw.new (bx := wd.boxes) hs2 ms (alM a2 hs2) n0 n1 nk
          have aB : Adv [] H2 _ := ((Adv.new (o := .lst []) n0).newT (o := dxo b1 []) n1).newT (o := .lst [.ref b0, .ref b1]) nk
          have n0H : H b0 = none := frM a2 hs2 n0
          have n1H : H b1 = none := frM a2 hs2 ((Adv.new (M := []) n0).free (by simp) n1)
          have b0s : b0 ≠ s := fun z => hs2.here (by rw [← z]; exact n0)
          have b0M : b0 ∉ M := fun z => alM a2 hs2 b0 z n0
          walk_at "rd"
          refine ⟨s, 1, 3, _, rfl, D0.str, by decide, by decide, fun c H3 c0 c1 hs3 a3 => ?_⟩
          have D3 := D0.next a3 hs3
          have a03 : Adv [s, b0, b1] H H3 := a_s ((a2.trans (Adv.nil aB)).trans a3)
          walk_at "rd"
          refine ⟨by omega, by omega, ?_⟩
          refine for_range (lo := 0) (n := c.toNat) (fun i σ' H' => ∃ (ns : List Nd) (x6 x7 : Option V), σ' = [some (.ref s), some (.str wd.str), some (.int kd), some (.bl wd.boxes), some (.ref wt), some (.ref bk), x6, x7] ∧ Dw (b1 :: b0 :: M) H' s bk b0 b1 wd.boxes ns ∧ ns.length ≤ bnd i ∧ (0 < i → 0 < ns.length) ∧ Adv [s, b0, b1] H H')
            ⟨[], none, none, rfl, D3, Nat.le_refl _, fun h => absurd h (Nat.lt_irrefl _), a03⟩ ?_ ?_
          · rintro i σ' H' hi ⟨ns, x6, x7, rfl, D, hl, _, a'⟩
            have hi2 : i ≤ 2 := by omega
            have hb := bnd_le2 hi2
            have hbs : bnd (i + 1) = 9 * (bnd i + 19) := rfl
            walk_at "rd"
            refine ⟨s, 1, 8, _, rfl, D.str, by decide, by decide, fun l H4 l0 l1 hs4 a4 => ?_⟩
            have D4 := D.next a4 hs4
            walk_at "rd"
            refine ⟨s, 9, _, rfl, hs4, by decide, by decide, fun m H5 m0 m1 hs5 a5 => ?_⟩
            have D5 := D4.next a5 hs5
            walk_at "rd"
            refine ⟨⟨_, s, bk, b0, b1, wd.boxes, ns, l, m, rfl, D5, by omega, by omega, m0, by omega, by omega, by omega, fun r ns6 H6 x => ?_⟩⟩
            have xl := x.le
            have xt := x.lt
            have xl2 : ns6.length ≤ bnd i + 19 := by omega
            have a6 : Adv [s, b0, b1] H H6 := ((a'.trans (a_s a4)).trans (a_s a5)).trans x.a
            walk_at "rd"
            refine ⟨s, 2, _, rfl, x.D.str, by decide, by decide, fun y H7 y0 y1 hs7 a7 => ?_⟩
            have D7 := x.D.next a7 hs7
            walk_at "rd"
            refine iteB (fun e => ?_) (fun e => ?_)
            · have read : ∀ (w3 : W3) {H8 : Hp} {pr : Addr} {Q' : VK}, Dw (b1 :: b0 :: M) H8 s bk b0 b1 wd.boxes ns6 → (w3 = .neg ∨ wd.boxes = true) → Adv [s, b0, b1] H H8 → H8 pr = none → (∀ H' d, Dw (b1 :: b0 :: M) H' s bk b0 b1 wd.boxes (readA w3 ns6 r).1 → Adv [s, b0, b1] H H' → Q' (.ref d) H') → ReadAllP [.str w3.str, .ref bk, .ref pr] (upd H8 pr (.lst [.int r])) Q' := by
                intro w3 H8 pr Q' D8 hw a8 npr k
                have ap : Adv [] H8 (upd H8 pr (.lst [.int r])) := Adv.new npr
                have D9 := D8.same ap
                exact ⟨⟨_, bk, b0, b1, pr, ns6, [r], wd.boxes, w3, rfl, D9.hbk, D9.kM, D9.B, D9.ok, by omega, upd_same, by simpa using xt, by simp, fun d H' nd hd B' a9 => k H' d (D9.read hw a9 B') ((a8.trans (Adv.nil ap)).trans (a_b a9))⟩⟩
              have done : ∀ (w3 : W3) {H' : Hp}, Dw (b1 :: b0 :: M) H' s bk b0 b1 wd.boxes (readA w3 ns6 r).1 → (readA w3 ns6 r).1.length ≤ bnd (i + 1) ∧ (0 < i + 1 → 0 < (readA w3 ns6 r).1.length) := fun w3 {H'} _ => by
                have h1 := readA_len w3 ns6 r
                have h2 := (readA_pre w3 ns6 r).length_le
                omega
              cases hb : wd.boxes with
              | true =>
                walk_at "rd"
                refine ⟨by show 1 ≤ sizeLine; decide, fun pr npr => ?_⟩
                walk_at "rd"
                exact read .dou D7 (.inr hb) (a6.trans (a_s a7)) npr fun H' d D' a' => ⟨_, _, _, rfl, by rw [← hb]; exact D', (done .dou D').1, (done .dou D').2, a'⟩
              | false =>
                walk_at "rd"
                refine ⟨by show 1 ≤ sizeLine; decide, fun pr npr => ?_⟩
                walk_at "rd"
                exact read .neg D7 (.inl rfl) (a6.trans (a_s a7)) npr fun H' d D' a' => ⟨_, _, _, rfl, by rw [← hb]; exact D', (done .neg D').1, (done .neg D').2, a'⟩
            · walk_at "rd"
              exact ⟨ns6, _, _, rfl, D7, by omega, fun _ => by omega, a6.trans (a_s a7)⟩
          · rintro σ' H' ⟨ns, x6, x7, rfl, D, hl, hpos, a'⟩
            have hb := bnd_le (i := c.toNat) (by omega)
            obtain ⟨rs, r0, rd⟩ := D.B.rows
            have hbk := D.hbk
            have hrl := rd.len
            rw [List.length_map] at hrl
            walk_at "rd"
            refine q b0 rs H' n0H r0 (RwDs.nds (rd.less (by simp +contextual))) (by have := hpos (by omega); omega) (by omega) (D.str.less (by simp +contextual)) ?_
            have z1 : Adv [b0, b1, s] H H' := a'.more (by simp +contextual)
            exact (z1.drop n0H).drop n1H
end
end K59

set_option Elab.async false
set_option linter.all false
set_option maxRecDepth 100000
set_option maxHeartbeats 400000
namespace K59
open PySem PySem.Spec PyProof.Rows L2 LL
open C8 (pss_cut)
local macro_rules | `(tactic| walk_at "ne") => `(tactic| first | assumption | (apply Ne.symm; assumption) | exact ne_of_none (by walk_at "hp") (by assumption) | exact (ne_of_none (by walk_at "hp") (by assumption)).symm)
local macro_rules | `(tactic| walk_at "nm") => `(tactic| first | assumption | exact notin0 | exact notin1 (by walk_at "ne") | exact notin2 (by walk_at "ne") (by walk_at "ne"))
local macro_rules | `(tactic| walk_at "hp") => `(tactic| first | assumption | exact upd_same | (refine Eq.trans (upd_ne ?ne) ?hh; (case hh => walk_at "hp"); (case ne => walk_at "ne")) | (refine Adv.get' (by assumption) ?hh ?nn; (case hh => walk_at "hp"); (case nn => walk_at "nm")))
local macro_rules | `(tactic| walk_at "tp") => `(tactic| first | assumption | exact Tp.adv (by walk_at "tp") (by assumption) | exact Tp.adv (by walk_at "tp") (Adv.nil (by assumption)))
local macro_rules | `(tactic| walk_at "sq") => `(tactic| first | assumption | exact Tp.sq (by assumption) (by walk_at "tp") | exact SqT.of (by walk_at "hp"))
local macro_rules | `(tactic| walk_at "at") => `(tactic| first | exact atI_nat (j := 0) rfl | exact atI_nat (j := 1) rfl | exact atI_nat (j := 2) rfl | exact atI_nat (j := 3) rfl | exact atI_nat (by assumption) | (rw [Int.zero_add]; exact atI_nat (by assumption)))
local macro_rules | `(tactic| walk_at "bb") => `(tactic| first | assumption | decide | exact rfl)
local macro_rules | `(tactic| walk_at "ci") => `(tactic| first | omega | (dsimp only; omega) | (unfold CDiv; omega) | (unfold CMul; omega))
local macro_rules | `(tactic| walk_at "rd1") => `(tactic| first
  | with_reducible refine rd_c ?_
  | ((with_reducible refine' rd_var ?rh ?_); (case rh => exact rfl))
  | with_reducible refine rd_op ?_
  | with_reducible refine rd_seq ?_
  | with_reducible refine rd_asg ?_
  | with_reducible refine rd_gname ?_
  | with_reducible refine rd_ifS ?_
  | with_reducible refine rd_test ?_
  | with_reducible refine rd_tB ?_
  | with_reducible refine rd_blP ?_
  | ((with_reducible refine' iteY ?rh ?_); (case rh => walk_at "bb"))
  | ((with_reducible refine' iteN ?rh ?_); (case rh => walk_at "bb"))
  | with_reducible refine rd_ret ?_
  | with_reducible refine rd_nx ?_
  | ((with_reducible refine' rd_eq ?rh ?_); (case rh => exact rfl))
  | ((with_reducible refine' rd_ne ?rh ?_); (case rh => exact rfl))
  | with_reducible refine rd_add ?_
  | with_reducible refine rd_sub ?_
  | with_reducible refine rd_i0 ?_
  | with_reducible refine rd_and ?_
  | with_reducible refine rd_or ?_
  | with_reducible refine rd_not ?_
  | with_reducible refine rd_andV ?_
  | with_reducible refine rd_orV ?_
  | with_reducible refine rd_notV ?_
  | with_reducible refine rd_ifE ?_
  | with_reducible refine rd_isN ?_
  | with_reducible refine rd_notN ?_
  | with_reducible refine rd_cons ?_
  | with_reducible refine rd_nil ?_
  | with_reducible refine rd_tup ?_
  | with_reducible refine rd_lst ?_
  | with_reducible refine rd_call ?_
  | with_reducible refine rd_cb ?_
  | with_reducible refine rd_meth ?_
  | with_reducible refine rd_callS ?_
  | with_reducible refine rd_make ?_
  | with_reducible refine rd_rfl ?_
  | with_reducible refine rd_fld ?_
  | with_reducible refine rd_drop ?_
  | with_reducible refine rd_gsub ?_
  | with_reducible refine rd_gcons ?_
  | with_reducible refine rd_gnil ?_
  | with_reducible refine rd_par ?_
  | with_reducible refine rd_two ?_
  | with_reducible refine rd_par3 ?_
  | with_reducible refine rd_three ?_
  | with_reducible refine rd_int1 ?_
  | ((with_reducible refine' rd_i ?rh ?_); (case rh => walk_at "ci"))
  | with_reducible refine rd_part ?_
  | with_reducible refine rd_nopart ?_
  | with_reducible refine rd_int ?_
  | with_reducible refine rd_sl ?_
  | with_reducible refine rd_bm ?_
  | with_reducible refine rd_bm0 ?_
  | with_reducible refine rd_dgetT ?_
  | with_reducible refine rd_din ?_
  | with_reducible refine rd_dnin ?_
  | with_reducible refine rd_un ?_
  | ((with_reducible refine' rd_ixL ?rh ?re ?_); (case rh => walk_at "hp"); (case re => walk_at "at"))
  | ((with_reducible refine' rd_ixT ?rh ?re ?_); (case rh => walk_at "sq"); (case re => walk_at "at"))
  | ((with_reducible refine' rd_lenT ?rh ?_); (case rh => walk_at "sq"))
  | ((with_reducible refine' rd_tyL ?rh ?_); (case rh => walk_at "hp"))
  | ((with_reducible refine' rd_len ?rh ?_); (case rh => walk_at "hp"))
  | with_reducible refine rd_u ?_
  | ((with_reducible refine' rd_slL ?rh ?_); (case rh => walk_at "hp"))
  | with_reducible refine rd_for ?_
  | with_reducible refine rd_rng1 ?_
  | with_reducible refine rd_rng2 ?_
  | with_reducible refine rd_ints1 ?_
  | with_reducible refine rd_ints2 ?_
  | with_reducible refine rd_retN ?_)
local macro_rules | `(tactic| walk_at "rd") => `(tactic| repeat walk_at "rd1")
section
variable [KW]
variable {P : Program} {w : World} {K : PySem.W.Frag} {mg : Str → Option Value} {base : Heap}
/-! ### _law_bent -/
def BigD (M : List Addr) (H : Hp) (v : V) : Prop := ∃ d, Is M H d v ∧ sz d ≤ 1000000 ∧ dep d ≤ 4
theorem SmD.big {M : List Addr} {H : Hp} {v : V} (x : SmD M H v) : BigD M H v := let ⟨d, h, z1, z2⟩ := x; ⟨d, h, by omega, by omega⟩
theorem BigD.adv {M : List Addr} {H H' : Hp} {v : V} (x : BigD M H v) (a : Adv M H H') : BigD M H' v := let ⟨d, h, z⟩ := x; ⟨d, h.adv a, z⟩
structure BentP (vs : List V) (H : Hp) (Q : VK) : Prop where
  ex : ∃ (M : List Addr) (s sh : Addr) (rs : List V), vs = [.ref s, .ref sh] ∧ StrAt M H s ∧ s ∈ M ∧ (∀ b ∈ M, H b ≠ none) ∧ H sh = some (.lst rs) ∧ sh ∉ M ∧ RwDs M H rs ∧ rs.length ≤ 20000 ∧
    ∀ v H', BigD M H' v → StrAt M H' s → Adv [s] H H' → Q v H'
def spBent : Sp := fun vs H Q _ => BentP vs H Q
theorem smd_new {M : List Addr} {H : Hp} {p : Addr} {xs : List V} (hal : ∀ b ∈ M, H b ≠ none) (np : H p = none) (hx : xs.all scV = true) (hl : xs.length ≤ 9) : SmD M (upd H p (.tup xs)) (.ref p) :=
  ⟨.tuple (xs.map scD), Is.tup upd_same (not_mem_new hal np) (sc_list hx), by rw [sz_tup, sc_szL]; omega, by rw [dep_tup, sc_depL]; omega⟩
theorem ok_law_bent (A : All K mg w) : FnOk P w K mg base CX0 3 A.law_bent.f A.law_bent.fd ["stream", "sheet"] spBent := by
  refine A.law_bent.F.ok sc_law_bent (fun vs H Q E h => ?_) (fun cdv Ar outer s H vs Q E hr h => ?_)
  · obtain ⟨M, s, sh, rs, rfl, _⟩ := h.ex
    rfl
  · obtain ⟨M, s, sh, rs, rfl, hs, ms, hal, hsh, shM, X, hlr, q⟩ := h.ex
    refine ⟨_, (pss_cons (ps_if (PW.pt (pw_or (pt_cmpR op_eq (pe_callB call_len_seq (by rfl) A.T.len PySem.boot_len (pa_cons (pv 1) pa_nil)) pe_int (nomark _)) (pw_or1 (pt_cmpR op_eq (pe_call (ok_law_next A) (hr.mono (by omega)) rfl A.law_next.m A.law_next.F.kp A.law_next.b .nil pass0 (pa_cons (pv 0) (pa_cons pe_int pa_nil))) pe_int (nomark _)))))
    (pss_one (ps_ret (pe_call (ok_law_pick A) (hr.mono (by omega)) rfl A.law_pick.m A.law_pick.F.kp A.law_pick.b .nil pass0 (pa_cons (pv 0) (pa_cons (pe_tup (pa_cons (pe_callTy call_tuple_of (by rfl) A.T.tuple (by decide +kernel) (pa_cons (pv 1) pa_nil)) (pa_cons pe_non (pa_cons pe_int (pa_cons pe_str (pa_cons (pe_op op_cat (pe_lst (pa_cons pe_non pa_nil)) (pv 1)) pa_nil)))))) pa_nil)))))
    pss_nil)
  (pss_cons (ps_set (i := 2) sc_law_bent.nd rfl (Or.inl rfl) (pe_call (ok_law_next A) (hr.mono (by omega)) rfl A.law_next.m A.law_next.F.kp A.law_next.b .nil pass0 (pa_cons (pv 0) (pa_cons (pe_callB call_len_seq (by rfl) A.T.len PySem.boot_len (pa_cons (pv 1) pa_nil)) pa_nil))))
  (pss_cons (ps_set (i := 3) sc_law_bent.nd rfl (Or.inl rfl) (pe_callB (call_max2 rfl) (by rfl) A.T.max (by decide +kernel) (pa_cons (pe_op op_sub (pv 2) pe_int) (pa_cons pe_int pa_nil))))
  (pss_cons (ps_set (i := 4) sc_law_bent.nd rfl (Or.inl rfl) (pe_lst (pa_cons (pe_tup (pa_cons pe_str (pa_cons (pv 3) pa_nil))) (pa_cons (pe_ix ix_list (pv 1) (pe_call (ok_law_next A) (hr.mono (by omega)) rfl A.law_next.m A.law_next.F.kp A.law_next.b .nil pass0 (pa_cons (pv 0) (pa_cons (pe_callB call_len_seq (by rfl) A.T.len PySem.boot_len (pa_cons (pv 1) pa_nil)) pa_nil))) (fun _ _ => rfl)) (pa_cons (pe_tup (pa_cons pe_str (pa_cons pe_int pa_nil))) (pa_cons (pe_tup (pa_cons pe_str (pa_cons (pe_un un_neg pe_int) pa_nil))) (pa_cons (pe_tup (pa_cons pe_str (pa_cons (pe_cmpR op_gt (pv 2) pe_int (nomark _)) pa_nil))) (pa_cons (pe_tup (pa_cons pe_str (pa_cons (pv 2) (pa_cons (pv 3) pa_nil)))) (pa_cons (pe_tup (pa_cons pe_str (pa_cons (pv 3) pa_nil))) pa_nil)))))))))
  (pss_cons (ps_set (i := 4) sc_law_bent.nd rfl (Or.inl rfl) (pe_op op_cat (pv 4) (pe_lst (pa_cons (pe_tup (pa_cons pe_str (pa_cons pe_int pa_nil))) (pa_cons (pe_callTy call_list_of (by rfl) A.T.list (by decide +kernel) (pa_cons (pe_ix ix_list (pv 1) (pv 2) (fun _ _ => rfl)) pa_nil)) (pa_cons (pe_tup (pa_cons pe_str (pa_cons (pv 3) pa_nil))) (pa_cons pe_non (pa_cons (pe_tup (pa_cons pe_str (pa_cons (pe_un un_neg pe_int) (pa_cons (pv 3) pa_nil)))) (pa_cons (pe_tup (pa_cons pe_str (pa_cons (pv 3) (pa_cons (pv 3) (pa_cons (pv 3) pa_nil))))) (pa_cons (pe_tup (pa_cons pe_str (pa_cons (pv 3) (pa_cons (pv 3) pa_nil)))) (pa_cons (pe_tup (pa_cons pe_str pa_nil)) (pa_cons (pe_tup pa_nil) pa_nil))))))))))))
  (pss_one (ps_ret (pe_op op_cat (pe_op op_cat (pe_slice sl_list (pv 1) po_none (po_some (pv 2))) (pe_lst (pa_cons (pe_call (ok_law_pick A) (hr.mono (by omega)) rfl A.law_pick.m A.law_pick.F.kp A.law_pick.b .nil pass0 (pa_cons (pv 0) (pa_cons (pv 4) pa_nil))) pa_nil))) (pe_slice sl_list (pv 1) (po_some (pe_op op_add (pv 2) pe_int)) po_none))))))))), ?_⟩
    have mM : ∀ b ∈ [s], b ∈ M := by simp [ms]
    have ss : sh ∉ [s] := fun z => shM (mM _ z)
    -- strange wholes
    have whole : ∀ {H1 : Hp} {Q' : VK}, Adv [s] H H1 → StrAt M H1 s → (∀ v H', BigD M H' v → StrAt M H' s → Adv [s] H H' → Q' v H') → ∀ {p1 p2 p3 p4 : Addr}, H1 p1 = none → (upd H1 p1 (.tup rs)) p2 = none → (upd (upd H1 p1 (.tup rs)) p2 (.lst [.non])) p3 = none →
        (upd (upd (upd H1 p1 (.tup rs)) p2 (.lst [.non])) p3 (.lst ([.non] ++ rs))) p4 = none →
        spPick [.ref s, .ref p4] (upd (upd (upd (upd H1 p1 (.tup rs)) p2 (.lst [.non])) p3 (.lst ([.non] ++ rs))) p4 (.tup [.ref p1, .non, .int 3, .str "no", .ref p3])) Q' E0 := by
      intro H1 Q' a1 hs1 k p1 p2 p3 p4 n1 n2 n3 n4
      have al1 := alloc_adv hal a1 (by simpa using hs1.here)
      have e1 : Adv [] _ _ := Adv.new (o := .tup rs) n1
      have al2 := alloc_adv al1 e1 (by simp)
      have e2 : Adv [] _ _ := Adv.new (o := .lst [.non]) n2
      have al3 := alloc_adv al2 e2 (by simp)
      have e3 : Adv [] _ _ := Adv.new (o := .lst ([.non] ++ rs)) n3
      have al4 := alloc_adv al3 e3 (by simp)
      have e4 : Adv [] _ _ := Adv.new (o := .tup [.ref p1, .non, .int 3, .str "no", .ref p3]) n4
      have X1 := X.sm.adv (a1.more mM)
      obtain ⟨ds, hds, zds⟩ := id X1
      have hdl := hds.len
      have z1 := szL_le (k := 10) (fun d hd => (zds d hd).1)
      have z2 := depL_le (k := 3) (fun d hd => (zds d hd).2)
      have b1 : BigD M _ (.ref p1) := ⟨.tuple ds, Is.tup upd_same (not_mem_new al1 n1) (hds.adv (Adv.nil e1)), by rw [sz_tup]; omega, by rw [dep_tup]; omega⟩
      have b3 : BigD M _ (.ref p3) := ⟨.list (.none :: ds), Is.lst upd_same (not_mem_new al3 n3) (.cons .non (hds.adv (Adv.nil ((e1.trans e2).trans e3)))), by rw [sz_lst, szL_cons, sz_non]; omega, by rw [dep_lst, depL_cons, dep_non]; omega⟩
      have e14 := ((e1.trans e2).trans e3).trans e4
      have hs4 := hs1.same e14
      refine ⟨s, p4, _, M, rfl, hs4, .inr upd_same, fun z => (hs1.same ((e1.trans e2).trans e3)).here (by rw [← z]; exact n4), by simp, by simp, fun x H5 hx hs5 a5 => ?_⟩
      have c5 : Adv M _ H5 := (Adv.nil e4).trans (a5.more mM)
      have aH : Adv [s] H H5 := (a1.trans (Adv.nil e14)).trans a5
      have sc : ∀ v, scV v = true → BigD M H5 v := fun v h => SmD.big (SmD.sc h)
      have hx' : x = .ref p1 ∨ x = .non ∨ x = .int 3 ∨ x = .str "no" ∨ x = .ref p3 := by simpa using hx
      rcases hx' with rfl | rfl | rfl | rfl | rfl
      · exact k _ _ (b1.adv ((Adv.nil (e2.trans e3)).trans c5)) hs5 aH
      · exact k _ _ (sc _ rfl) hs5 aH
      · exact k _ _ (sc _ rfl) hs5 aH
      · exact k _ _ (sc _ rfl) hs5 aH
      · exact k _ _ (b3.adv c5) hs5 aH
    walk_at "rd"
    refine iteB (fun e => ?_) (fun e => ?_)
    · walk_at "rd"
      refine ⟨sh, rs, rfl, .inl ⟨SqL.of hsh, fun p1 n1 => ?_⟩⟩
      walk_at "rd"
      refine ⟨by show 1 ≤ sizeLine; decide, fun p2 n2 => ?_⟩
      walk_at "rd"
      have hsh2 : (upd (upd H p1 (.tup rs)) p2 (.lst [.non])) sh = some (.lst rs) := (Adv.new (M := []) n2).same _ _ ((Adv.new (M := []) n1).same _ _ hsh)
      refine rd_cat upd_same hsh2 (by rw [sizeLine_eq, List.length_singleton]; omega) fun p3 n3 => ?_
      walk_at "rd"
      refine ⟨by show 5 ≤ sizeLine; decide, fun p4 n4 => ?_⟩
      exact whole (Adv.refl _ _) hs q n1 n2 n3 n4
    have hpos : 0 < rs.length := by
      have := of_decide_eq_false e
      rcases Nat.eq_zero_or_pos rs.length with h | h
      · exact absurd (by rw [h]; rfl) this
      · exact h
    walk_at "rd"
    refine ⟨s, 9, M, rfl, hs, by decide, by decide, fun t H1 t0 t1 hs1 a1 => ?_⟩
    have hsh1 := a1 _ _ ss hsh
    walk_at "rd"
    refine iteB (fun e => ?_) (fun e => ?_)
    · walk_at "rd"
      refine ⟨sh, rs, rfl, .inl ⟨SqL.of hsh1, fun p1 n1 => ?_⟩⟩
      walk_at "rd"
      refine ⟨by show 1 ≤ sizeLine; decide, fun p2 n2 => ?_⟩
      walk_at "rd"
      have hsh2 : (upd (upd H1 p1 (.tup rs)) p2 (.lst [.non])) sh = some (.lst rs) := (Adv.new (M := []) n2).same _ _ ((Adv.new (M := []) n1).same _ _ hsh1)
      refine rd_cat upd_same hsh2 (by rw [sizeLine_eq, List.length_singleton]; omega) fun p3 n3 => ?_
      walk_at "rd"
      refine ⟨by show 5 ≤ sizeLine; decide, fun p4 n4 => ?_⟩
      exact whole a1 hs1 q n1 n2 n3 n4
    walk_at "rd"
    refine ⟨s, rs.length, M, rfl, hs1, by omega, by omega, fun t2 H2 u0 u1 hs2 a2 => ?_⟩
    have hsh2 := a2 _ _ ss hsh1
    obtain ⟨k, rfl⟩ : ∃ k : Nat, t2 = (k : Int) := ⟨t2.toNat, by omega⟩
    have hk : k < rs.length := by omega
    have hkg : rs[k]? = some rs[k] := List.getElem?_eq_getElem hk
    have a02 : Adv [s] H H2 := a1.trans a2
    have al2 := alloc_adv hal a02 (by simpa using hs2.here)
    have X2 := X.adv (a02.more mM)
    walk_at "rd"
    generalize (if (0 : Int) > (k : Int) - 1 then (0 : Int) else (k : Int) - 1) = low
    walk_at "rd"
    refine ⟨by show 2 ≤ sizeLine; decide, fun p11 n11 => ?_⟩
    have i11 := smd_new (xs := [V.str "box", .int (low)]) al2 n11 rfl (by simp)
    have e11 : Adv [] _ _ := Adv.new (o := .tup [V.str "box", .int (low)]) n11
    have al11 := alloc_adv al2 e11 (by simp)
    walk_at "rd"
    refine ⟨s, rs.length, M, rfl, hs2.same e11, by omega, by omega, fun t3 H3 v0 v1 hs3 a3 => ?_⟩
    have f3 : Adv [s] H2 H3 := (Adv.nil e11).trans a3
    have hsh3 := f3 _ _ ss hsh2
    have al3 := alloc_adv al2 f3 (by simpa using hs3.here)
    have i11 := i11.adv (a3.more mM)
    obtain ⟨k3, rfl⟩ : ∃ k3 : Nat, t3 = (k3 : Int) := ⟨t3.toNat, by omega⟩
    have hk3 : k3 < rs.length := by omega
    have hkg3 : rs[k3]? = some rs[k3] := List.getElem?_eq_getElem hk3
    have X3 := X2.adv (f3.more mM)
    have i12 := (X3.get hkg3).sm
    walk_at "rd"
    refine ⟨by show 2 ≤ sizeLine; decide, fun p13 n13 => ?_⟩
    have i13 := smd_new (xs := [V.str "letter", .int (8)]) al3 n13 rfl (by simp)
    have e13 : Adv [] _ _ := Adv.new (o := .tup [V.str "letter", .int (8)]) n13
    have al13 := alloc_adv al3 e13 (by simp)
    walk_at "rd"
    refine ⟨by show 2 ≤ sizeLine; decide, fun p14 n14 => ?_⟩
    have i14 := smd_new (xs := [V.str "letter", .int (-1)]) al13 n14 rfl (by simp)
    have e14 : Adv [] _ _ := Adv.new (o := .tup [V.str "letter", .int (-1)]) n14
    have al14 := alloc_adv al13 e14 (by simp)
    walk_at "rd"
    refine ⟨by show 2 ≤ sizeLine; decide, fun p15 n15 => ?_⟩
    have i15 := smd_new (xs := [V.str "letter", .bl (decide ((k : Int) > 0))]) al14 n15 rfl (by simp)
    have e15 : Adv [] _ _ := Adv.new (o := .tup [V.str "letter", .bl (decide ((k : Int) > 0))]) n15
    have al15 := alloc_adv al14 e15 (by simp)
    walk_at "rd"
    refine ⟨by show 3 ≤ sizeLine; decide, fun p16 n16 => ?_⟩
    have i16 := smd_new (xs := [V.str "and", .int (k), .int (low)]) al15 n16 rfl (by simp)
    have e16 : Adv [] _ _ := Adv.new (o := .tup [V.str "and", .int (k), .int (low)]) n16
    have al16 := alloc_adv al15 e16 (by simp)
    walk_at "rd"
    refine ⟨by show 2 ≤ sizeLine; decide, fun p17 n17 => ?_⟩
    have i17 := smd_new (xs := [V.str "or", .int (low)]) al16 n17 rfl (by simp)
    have e17 : Adv [] _ _ := Adv.new (o := .tup [V.str "or", .int (low)]) n17
    have al17 := alloc_adv al16 e17 (by simp)
    walk_at "rd"
    refine ⟨by show 7 ≤ sizeLine; decide, fun L1 nL1 => ?_⟩
    have c37 := (((e13.trans e14).trans e15).trans e16).trans e17
    have y1 : SmDs M _ [.ref p11, rs[k3], .ref p13, .ref p14, .ref p15, .ref p16, .ref p17] := .cons (i11.adv (Adv.nil c37)) (.cons (i12.adv (Adv.nil c37)) (.cons (i13.adv (Adv.nil (((e14.trans e15).trans e16).trans e17))) (.cons (i14.adv (Adv.nil ((e15.trans e16).trans e17))) (.cons (i15.adv (Adv.nil (e16.trans e17))) (.cons (i16.adv (Adv.nil e17)) (.cons i17 .nil))))))
    have eL1 : Adv [] _ _ := Adv.new (o := .lst [.ref p11, rs[k3], .ref p13, .ref p14, .ref p15, .ref p16, .ref p17]) nL1
    have alL1 := alloc_adv al17 eL1 (by simp)
    have c3L := c37.trans eL1
    have hshL := c3L.same _ _ hsh3
    have XL := X3.adv (Adv.nil c3L)
    have y1 := y1.adv (Adv.nil eL1)
    have hL1 := new_at (o := .lst [V.ref p11, rs[k3], .ref p13, .ref p14, .ref p15, .ref p16, .ref p17]) nL1
    walk_at "rd"
    refine ⟨by show 2 ≤ sizeLine; decide, fun p21 n21 => ?_⟩
    have i21 := smd_new (xs := [V.str "no", .int (0)]) alL1 n21 rfl (by simp)
    have e21 : Adv [] _ _ := Adv.new (o := .tup [V.str "no", .int (0)]) n21
    have al21 := alloc_adv alL1 e21 (by simp)
    walk_at "rd"
    have hshM := e21.same _ _ hshL
    have XM := XL.adv (Adv.nil e21)
    obtain ⟨ra, ks, eks, hra, hkl⟩ := (XM.get hkg).at_
    walk_at "rd"
    have sqr := hra.sq A.W
    rw [eks]
    refine rd_lenT sqr ?_
    intro l2 nl2
    have il2 := sm_lst (ks := ks) (new_at (o := .lst (ks.map kV)) nl2) (not_mem_new al21 nl2) hkl
    have el2 : Adv [] _ _ := Adv.new (o := .lst (ks.map kV)) nl2
    have all2 := alloc_adv al21 el2 (by simp)
    walk_at "rd"
    refine ⟨by show 2 ≤ sizeLine; decide, fun p23 n23 => ?_⟩
    have i23 := smd_new (xs := [V.str "not", .int (low)]) all2 n23 rfl (by simp)
    have e23 : Adv [] _ _ := Adv.new (o := .tup [V.str "not", .int (low)]) n23
    have al23 := alloc_adv all2 e23 (by simp)
    walk_at "rd"
    refine ⟨by show 3 ≤ sizeLine; decide, fun p24 n24 => ?_⟩
    have i24 := smd_new (xs := [V.str "if", .int (-1), .int (low)]) al23 n24 rfl (by simp)
    have e24 : Adv [] _ _ := Adv.new (o := .tup [V.str "if", .int (-1), .int (low)]) n24
    have al24 := alloc_adv al23 e24 (by simp)
    walk_at "rd"
    refine ⟨by show 4 ≤ sizeLine; decide, fun p25 n25 => ?_⟩
    have i25 := smd_new (xs := [V.str "if", .int (low), .int (low), .int (low)]) al24 n25 rfl (by simp)
    have e25 : Adv [] _ _ := Adv.new (o := .tup [V.str "if", .int (low), .int (low), .int (low)]) n25
    have al25 := alloc_adv al24 e25 (by simp)
    walk_at "rd"
    refine ⟨by show 3 ≤ sizeLine; decide, fun p26 n26 => ?_⟩
    have i26 := smd_new (xs := [V.str "box", .int (low), .int (low)]) al25 n26 rfl (by simp)
    have e26 : Adv [] _ _ := Adv.new (o := .tup [V.str "box", .int (low), .int (low)]) n26
    have al26 := alloc_adv al25 e26 (by simp)
    walk_at "rd"
    refine ⟨by show 1 ≤ sizeLine; decide, fun p27 n27 => ?_⟩
    have i27 := smd_new (xs := [V.str "letter"]) al26 n27 rfl (by simp)
    have e27 : Adv [] _ _ := Adv.new (o := .tup [V.str "letter"]) n27
    have al27 := alloc_adv al26 e27 (by simp)
    walk_at "rd"
    refine ⟨Nat.zero_le _, fun p28 n28 => ?_⟩
    have i28 := smd_new (xs := []) al27 n28 rfl (by simp)
    have e28 : Adv [] _ _ := Adv.new (o := .tup []) n28
    have al28 := alloc_adv al27 e28 (by simp)
    walk_at "rd"
    refine ⟨by show 9 ≤ sizeLine; decide, fun L2 nL2 => ?_⟩
    have c28 := (((((el2.trans e23).trans e24).trans e25).trans e26).trans e27).trans e28
    have y2 : SmDs M _ [.ref p21, .ref l2, .ref p23, .non, .ref p24, .ref p25, .ref p26, .ref p27, .ref p28] := .cons (i21.adv (Adv.nil c28)) (.cons (il2.adv (Adv.nil (((((e23.trans e24).trans e25).trans e26).trans e27).trans e28))) (.cons (i23.adv (Adv.nil ((((e24.trans e25).trans e26).trans e27).trans e28))) (.cons (.sc rfl) (.cons (i24.adv (Adv.nil (((e25.trans e26).trans e27).trans e28))) (.cons (i25.adv (Adv.nil ((e26.trans e27).trans e28))) (.cons (i26.adv (Adv.nil (e27.trans e28))) (.cons (i27.adv (Adv.nil e28)) (.cons i28 .nil))))))))
    have eL2 : Adv [] _ _ := Adv.new (o := .lst [.ref p21, .ref l2, .ref p23, .non, .ref p24, .ref p25, .ref p26, .ref p27, .ref p28]) nL2
    have alL2 := alloc_adv al28 eL2 (by simp)
    have cLL := (e21.trans c28).trans eL2
    have hL1' := cLL.same _ _ hL1
    refine rd_cat hL1' upd_same (by show 16 ≤ sizeLine; decide) fun L3 nL3 => ?_
    have y3 := (y1.adv (Adv.nil cLL)).app (y2.adv (Adv.nil eL2))
    have eL3 : Adv [] _ _ := Adv.new (o := .lst ([.ref p11, rs[k3], .ref p13, .ref p14, .ref p15, .ref p16, .ref p17] ++ [.ref p21, .ref l2, .ref p23, .non, .ref p24, .ref p25, .ref p26, .ref p27, .ref p28])) nL3
    have y3 := y3.adv (Adv.nil eL3)
    have alL3 := alloc_adv alL2 eL3 (by simp)
    have cEnd := cLL.trans eL3
    have hshE := cEnd.same _ _ hshL
    have XE := XL.adv (Adv.nil cEnd)
    have hsE := (hs3.same c3L).same cEnd
    have aE : Adv [s] H _ := (a02.trans f3).trans (Adv.nil (c3L.trans cEnd))
    have hL3 := new_at (o := .lst ([V.ref p11, rs[k3], .ref p13, .ref p14, .ref p15, .ref p16, .ref p17] ++ [.ref p21, .ref l2, .ref p23, .non, .ref p24, .ref p25, .ref p26, .ref p27, .ref p28])) nL3
    revert y3 alL3 hshE XE hsE aE hL3
    generalize upd (upd _ L2 _) L3 _ = HE
    intro y3 alL3 hshE XE hsE aE hL3
    walk_at "rd"
    intro sl nsl
    have esl : Adv [] _ _ := Adv.new (o := .lst (cutV rs none (some (k : Int)))) nsl
    walk_at "rd"
    have lc1 := cut_len rs none (some (k : Int))
    have lc2 := cut_len rs (some ((k : Int) + 1)) none
    have L3s : L3 ≠ s := ne_of hL3 (show HE s = some (.lst _) from hsE.choose_spec.choose_spec.choose_spec.choose_spec.1) (by intro z; injection z with z; exact absurd (congrArg List.length z) (by simp))
    have y3s := y3.adv (Adv.nil esl)
    refine ⟨s, L3, _, M, rfl, hsE.same esl, .inl (esl.same _ _ hL3), L3s, by simp, by simp, fun x H6 hx hs6 a6 => ?_⟩
    have ix := (y3s.mem hx).adv (a6.more mM)
    have g6 : Adv M HE H6 := (Adv.nil esl).trans (a6.more mM)
    have slM : sl ∉ M := not_mem_new alL3 nsl
    have sls : sl ∉ [s] := fun z => slM (mM _ z)
    have hsl6 := a6 _ _ sls (new_at (o := .lst (cutV rs none (some (k : Int)))) nsl)
    have hsh6 := a6 _ _ ss (esl.same _ _ hshE)
    have X6 := (XE.sm).adv g6
    have al6 := alloc_adv alL3 ((Adv.nil (N := [s]) esl).trans a6) (by simpa using hs6.here)
    have aH6 : Adv [s] H H6 := (aE.trans (Adv.nil esl)).trans a6
    walk_at "rd"
    refine ⟨by show 1 ≤ sizeLine; decide, fun p np => ?_⟩
    have ep : Adv [] _ _ := Adv.new (o := .lst [x]) np
    refine rd_cat (ep.same _ _ hsl6) upd_same (by rw [sizeLine_eq, List.length_singleton]; omega) fun c1 nc1 => ?_
    have ec1 : Adv [] _ _ := Adv.new (o := .lst (cutV rs none (some (k : Int)) ++ [x])) nc1
    have hshC := (ep.trans ec1).same _ _ hsh6
    walk_at "rd"
    intro s2 ns2
    have es2 : Adv [] _ _ := Adv.new (o := .lst (cutV rs (some ((k : Int) + 1)) none)) ns2
    refine rd_cat (es2.same _ _ (new_at nc1)) upd_same (by rw [sizeLine_eq, List.length_append, List.length_singleton]; omega) fun c2 nc2 => ?_
    have ec2 : Adv [] _ _ := Adv.new (o := .lst (cutV rs none (some (k : Int)) ++ [x] ++ cutV rs (some ((k : Int) + 1)) none)) nc2
    have eF := ((ep.trans ec1).trans es2).trans ec2
    have fin : SmDs M _ (cutV rs none (some (k : Int)) ++ [x] ++ cutV rs (some ((k : Int) + 1)) none) := (((X6.cut none (some (k : Int))).app (.cons ix .nil)).app (X6.cut (some ((k : Int) + 1)) none)).adv (Adv.nil eF)
    refine q _ _ (fin.lst (new_at nc2) (not_mem_new (alloc_adv al6 ((ep.trans ec1).trans es2) (by simp)) nc2) (by simp; omega)) (hs6.same eF) (aH6.trans (Adv.nil eF))
end
end K59

set_option Elab.async false
set_option linter.all false
set_option maxRecDepth 100000
set_option maxHeartbeats 2000000
namespace K59
open PySem PySem.Spec PyProof.Rows L2 LL
open C8 (pss_cut)
local macro_rules | `(tactic| walk_at "ne") => `(tactic| first | assumption | (apply Ne.symm; assumption) | exact ne_of_none (by walk_at "hp") (by assumption) | exact (ne_of_none (by walk_at "hp") (by assumption)).symm)
local macro_rules | `(tactic| walk_at "nm") => `(tactic| first | assumption | exact notin0 | exact notin1 (by walk_at "ne") | exact notin2 (by walk_at "ne") (by walk_at "ne"))
local macro_rules | `(tactic| walk_at "hp") => `(tactic| first | assumption | exact upd_same | (refine Eq.trans (upd_ne ?ne) ?hh; (case hh => walk_at "hp"); (case ne => walk_at "ne")) | (refine Adv.get' (by assumption) ?hh ?nn; (case hh => walk_at "hp"); (case nn => walk_at "nm")))
local macro_rules | `(tactic| walk_at "tp") => `(tactic| first | assumption | exact Tp.adv (by walk_at "tp") (by assumption) | exact Tp.adv (by walk_at "tp") (Adv.nil (by assumption)))
local macro_rules | `(tactic| walk_at "sq") => `(tactic| first | assumption | exact Tp.sq (by assumption) (by walk_at "tp") | exact SqT.of (by walk_at "hp"))
local macro_rules | `(tactic| walk_at "at") => `(tactic| first | exact atI_nat (j := 0) rfl | exact atI_nat (j := 1) rfl | exact atI_nat (j := 2) rfl | exact atI_nat (j := 3) rfl | exact atI_nat (by assumption) | (rw [Int.zero_add]; exact atI_nat (by assumption)))
local macro_rules | `(tactic| walk_at "bb") => `(tactic| first | assumption | decide | exact rfl)
local macro_rules | `(tactic| walk_at "ci") => `(tactic| first | omega | (dsimp only; omega) | (unfold CDiv; omega) | (unfold CMul; omega))
local macro_rules | `(tactic| walk_at "rd1") => `(tactic| first
  | with_reducible refine rd_c ?_
  | ((with_reducible refine' rd_var ?rh ?_); (case rh => exact rfl))
  | with_reducible refine rd_op ?_
  | with_reducible refine rd_seq ?_
  | with_reducible refine rd_asg ?_
  | with_reducible refine rd_gname ?_
  | with_reducible refine rd_ifS ?_
  | with_reducible refine rd_test ?_
  | with_reducible refine rd_tB ?_
  | with_reducible refine rd_blP ?_
  | ((with_reducible refine' iteY ?rh ?_); (case rh => walk_at "bb"))
  | ((with_reducible refine' iteN ?rh ?_); (case rh => walk_at "bb"))
  | with_reducible refine rd_ret ?_
  | with_reducible refine rd_nx ?_
  | ((with_reducible refine' rd_eq ?rh ?_); (case rh => exact rfl))
  | ((with_reducible refine' rd_ne ?rh ?_); (case rh => exact rfl))
  | with_reducible refine rd_add ?_
  | with_reducible refine rd_sub ?_
  | with_reducible refine rd_i0 ?_
  | with_reducible refine rd_and ?_
  | with_reducible refine rd_or ?_
  | with_reducible refine rd_not ?_
  | with_reducible refine rd_andV ?_
  | with_reducible refine rd_orV ?_
  | with_reducible refine rd_notV ?_
  | with_reducible refine rd_ifE ?_
  | with_reducible refine rd_isN ?_
  | with_reducible refine rd_notN ?_
  | with_reducible refine rd_cons ?_
  | with_reducible refine rd_nil ?_
  | with_reducible refine rd_tup ?_
  | with_reducible refine rd_lst ?_
  | with_reducible refine rd_call ?_
  | with_reducible refine rd_cb ?_
  | with_reducible refine rd_meth ?_
  | with_reducible refine rd_callS ?_
  | with_reducible refine rd_make ?_
  | with_reducible refine rd_rfl ?_
  | with_reducible refine rd_fld ?_
  | with_reducible refine rd_drop ?_
  | with_reducible refine rd_gsub ?_
  | with_reducible refine rd_gcons ?_
  | with_reducible refine rd_gnil ?_
  | with_reducible refine rd_par ?_
  | with_reducible refine rd_two ?_
  | with_reducible refine rd_par3 ?_
  | with_reducible refine rd_three ?_
  | with_reducible refine rd_int1 ?_
  | ((with_reducible refine' rd_i ?rh ?_); (case rh => walk_at "ci"))
  | with_reducible refine rd_part ?_
  | with_reducible refine rd_nopart ?_
  | with_reducible refine rd_int ?_
  | with_reducible refine rd_sl ?_
  | with_reducible refine rd_bm ?_
  | with_reducible refine rd_bm0 ?_
  | with_reducible refine rd_dgetT ?_
  | with_reducible refine rd_din ?_
  | with_reducible refine rd_dnin ?_
  | with_reducible refine rd_un ?_
  | ((with_reducible refine' rd_ixL ?rh ?re ?_); (case rh => walk_at "hp"); (case re => walk_at "at"))
  | ((with_reducible refine' rd_ixT ?rh ?re ?_); (case rh => walk_at "sq"); (case re => walk_at "at"))
  | ((with_reducible refine' rd_lenT ?rh ?_); (case rh => walk_at "sq"))
  | ((with_reducible refine' rd_tyL ?rh ?_); (case rh => walk_at "hp"))
  | ((with_reducible refine' rd_len ?rh ?_); (case rh => walk_at "hp"))
  | with_reducible refine rd_u ?_
  | ((with_reducible refine' rd_slL ?rh ?_); (case rh => walk_at "hp"))
  | with_reducible refine rd_for ?_
  | with_reducible refine rd_rng1 ?_
  | with_reducible refine rd_rng2 ?_
  | with_reducible refine rd_ints1 ?_
  | with_reducible refine rd_ints2 ?_
  | with_reducible refine rd_retN ?_)
local macro_rules | `(tactic| walk_at "rd") => `(tactic| repeat walk_at "rd1")
section
variable [KW]
variable {P : Program} {w : World} {K : PySem.W.Frag} {mg : Str → Option Value} {base : Heap}
/-! ### law -/
/-- a sheet beside the stream -/
structure LSt (s sh : Addr) (rs : List V) (d : PyData) (H : Hp) : Prop where
  str : StrAt [s] H s
  hsh : H sh = some (.lst rs)
  ne : sh ∉ [s]
  X : RwDs [s] H rs
  is : Is [s] H d (.ref sh)
section
variable {s sh : Addr} {rs : List V} {d : PyData} {H H' : Hp}
theorem LSt.al (x : LSt s sh rs d H) : ∀ b ∈ [s], H b ≠ none := by simpa using x.str.here
theorem LSt.next (x : LSt s sh rs d H) (a : Adv [s] H H') (hs : StrAt [s] H' s) : LSt s sh rs d H' := ⟨hs, a _ _ x.ne x.hsh, x.ne, x.X.adv a, x.is.adv a⟩
theorem LSt.same (x : LSt s sh rs d H) (a : Adv [] H H') : LSt s sh rs d H' := x.next (Adv.nil a) (x.str.same a)
end
theorem rw_big {M : List Addr} {H : Hp} {vs : List V} {l : Addr} (x : RwDs M H vs) (h : H l = some (.lst vs)) (hl : l ∉ M) (hz : vs.length ≤ 20000) : ∃ d, Is M H d (.ref l) ∧ sz d ≤ 1000000 ∧ dep d ≤ 4 := x.sm.lst h hl (by omega)
def LQ (M : List Addr) (H : Hp) (x : V) : Prop := ∃ l ws, x = .ref l ∧ H l = some (.lst ws) ∧ l ∉ M ∧ RwDs M H ws ∧ ws.length ≤ 20000
theorem LQ.adv {M : List Addr} {H H' : Hp} {x : V} (y : LQ M H x) (a : Adv M H H') : LQ M H' x := let ⟨l, ws, e, h, n, X, z⟩ := y; ⟨l, ws, e, a _ _ n h, n, X.adv a, z⟩
def spLaw (K : PySem.W.Frag) : Sp := fun vs H Q _ => ∃ (a : Addr) (ns : List Int), vs = [.ref a] ∧ SqL K H a (ns.map V.int) ∧ ns.length ≤ 63 ∧ ∀ H', Q (.bl true) H'
theorem ok_law (A : All K mg w) (G : Grw K mg) (R : Rds A) (Z : Exs K mg) (Z1 : Er_BadSheet Z) (Z2 : Er_BadValue Z) : FnOk P w K mg base CX0 18 A.law.f A.law.fd ["script"] (spLaw K) := by
  refine A.law.F.ok sc_law (fun vs H Q E h => ?_) (fun cdv Ar outer s0 H vs Q E hr h => ?_)
  · obtain ⟨a, ns, rfl, _⟩ := h
    rfl
  · obtain ⟨a, ns, rfl, hS, hl, q⟩ := h
    refine ⟨_, (pss_cons (ps_set (i := 1) sc_law.nd rfl (Or.inl rfl) (pe_call (ok_law_stream A) (hr.mono (by omega)) rfl A.law_stream.m A.law_stream.F.kp A.law_stream.b .nil pass0 (pa_cons (pv 0) pa_nil)))
  (pss_cons (ps_set (i := 2) sc_law.nd rfl (Or.inl rfl) (pe_call (ok_law_pick A) (hr.mono (by omega)) rfl A.law_pick.m A.law_pick.F.kp A.law_pick.b .nil pass0 (pa_cons (pv 1) (pa_cons (pe_tup (pa_cons pe_str (pa_cons pe_str (pa_cons pe_str pa_nil)))) pa_nil))))
  (pss_cons (ps_set (i := 3) sc_law.nd rfl (Or.inl rfl) (pe_call (ok_law_sheet A) (hr.mono (by omega)) rfl A.law_sheet.m A.law_sheet.F.kp A.law_sheet.b .nil pass0 (pa_cons (pv 1) (pa_cons (pv 2) pa_nil))))
  (pss_cut (ps_set (i := 4) sc_law.nd rfl (Or.inl rfl) (pe_ifExp (pt_cmpR op_gt (pe_call (ok_law_next A) (hr.mono (by omega)) rfl A.law_next.m A.law_next.F.kp A.law_next.b .nil pass0 (pa_cons (pv 1) (pa_cons pe_int pa_nil))) pe_int (nomark _)) (pe_op op_sub (pe_op op_sub (pe_callB call_len_seq (by rfl) A.T.len PySem.boot_len (pa_cons (pv 3) pa_nil)) pe_int) (pe_call (ok_law_next A) (hr.mono (by omega)) rfl A.law_next.m A.law_next.F.kp A.law_next.b .nil pass0 (pa_cons (pv 1) (pa_cons (pe_callB (call_min2 rfl) (by rfl) A.T.min (by decide +kernel) (pa_cons (pe_callB call_len_seq (by rfl) A.T.len PySem.boot_len (pa_cons (pv 3) pa_nil)) (pa_cons pe_int pa_nil))) pa_nil)))) (pe_call (ok_law_next A) (hr.mono (by omega)) rfl A.law_next.m A.law_next.F.kp A.law_next.b .nil pass0 (pa_cons (pv 1) (pa_cons (pe_callB call_len_seq (by rfl) A.T.len PySem.boot_len (pa_cons (pv 3) pa_nil)) pa_nil)))))
  (pss_cons (ps_set (i := 5) sc_law.nd rfl (Or.inl rfl) (pe_call (ok_law_due A) (hr.mono (by omega)) rfl A.law_due.m A.law_due.F.kp A.law_due.b .nil pass0 (pa_cons (pv 2) (pa_cons (pv 3) (pa_cons (pv 4) pa_nil)))))
  (pss_cons (ps_set (i := 6) sc_law.nd rfl (Or.inl rfl) (pe_call (ok_law_asked A G R Z Z1 Z2) (hr.mono (by omega)) rfl A.law_asked.m A.law_asked.F.kp A.law_asked.b .nil pass0 (pa_cons (pv 2) (pa_cons (pv 3) (pa_cons (pv 4) pa_nil)))))
  (pss_cons (ps_if (pt_not (pt_val (pe_call (ok_law_same A) (hr.mono (by omega)) rfl A.law_same.m A.law_same.F.kp A.law_same.b .nil pass0 (pa_cons (pv 6) (pa_cons (pv 5) pa_nil)))))
    (pss_one (ps_ret pe_bl))
    pss_nil)
  (pss_cut (ps_if (pt_cmpR op_eq (pe_ix ix_tup (pv 5) pe_int (fun _ _ => rfl)) pe_str (nomark _))
    (pss_cons (ps_set (i := 7) sc_law.nd rfl (Or.inl rfl) (pe_ix ix_tup (pe_ix ix_tup (pv 6) pe_int (fun _ _ => rfl)) pe_int (fun _ _ => rfl)))
  (pss_cons (ps_expr (pe_bm PySem.F.plainAttrs_list PySem.F.slot_list_append PySem.F.type_list_append mt_append (pv 7) (pa_cons (pe_tup (pa_cons pe_str (pa_cons pe_int pa_nil))) pa_nil)))
  (pss_cons (ps_asg (pe_tup (pa_cons pe_str (pa_cons pe_int pa_nil))) (pg_sub (pv 7) pe_int set_list))
  (pss_one (ps_if (pt_not (pt_val (pe_call (ok_law_same A) (hr.mono (by omega)) rfl A.law_same.m A.law_same.F.kp A.law_same.b .nil pass0 (pa_cons (pe_call (ok_law_asked A G R Z Z1 Z2) (hr.mono (by omega)) rfl A.law_asked.m A.law_asked.F.kp A.law_asked.b .nil pass0 (pa_cons (pv 2) (pa_cons (pv 3) (pa_cons (pv 4) pa_nil)))) (pa_cons (pv 5) pa_nil)))))
    (pss_one (ps_ret pe_bl))
    pss_nil)))))
    pss_nil)
  (pss_cut (ps_if (pt_cmpR op_lt (pe_callB call_len_seq (by rfl) A.T.len PySem.boot_len (pa_cons (pv 3) pa_nil)) pe_int (nomark _))
    (pss_cons (ps_set (i := 8) sc_law.nd rfl (Or.inl rfl) (pe_call (ok_law_bent A) (hr.mono (by omega)) rfl A.law_bent.m A.law_bent.F.kp A.law_bent.b .nil pass0 (pa_cons (pv 1) (pa_cons (pv 3) pa_nil))))
  (pss_cons (ps_if (pt_not (pt_val (pe_call (ok_law_same A) (hr.mono (by omega)) rfl A.law_same.m A.law_same.F.kp A.law_same.b .nil pass0 (pa_cons (pe_call (ok_law_asked A G R Z Z1 Z2) (hr.mono (by omega)) rfl A.law_asked.m A.law_asked.F.kp A.law_asked.b .nil pass0 (pa_cons (pv 2) (pa_cons (pv 8) (pa_cons (pv 4) pa_nil)))) (pa_cons (pe_call (ok_law_due A) (hr.mono (by omega)) rfl A.law_due.m A.law_due.F.kp A.law_due.b .nil pass0 (pa_cons (pv 2) (pa_cons (pv 8) (pa_cons (pv 4) pa_nil)))) pa_nil)))))
    (pss_one (ps_ret pe_bl))
    pss_nil)
  (pss_cons (ps_set (i := 9) sc_law.nd rfl (Or.inl rfl) (pe_call (ok_law_pick A) (hr.mono (by omega)) rfl A.law_pick.m A.law_pick.F.kp A.law_pick.b .nil pass0 (pa_cons (pv 1) (pa_cons (pe_tup (pa_cons (pe_un un_neg pe_int) (pa_cons (pe_callB call_len_seq (by rfl) A.T.len PySem.boot_len (pa_cons (pv 3) pa_nil)) (pa_cons (pe_op op_add (pe_callB call_len_seq (by rfl) A.T.len PySem.boot_len (pa_cons (pv 3) pa_nil)) pe_int) (pa_cons pe_bl (pa_cons pe_bl (pa_cons pe_non (pa_cons pe_str (pa_cons (pe_tup (pa_cons (pv 4) pa_nil)) (pa_cons (pe_lst (pa_cons (pv 4) pa_nil)) (pa_cons pe_int pa_nil))))))))))) pa_nil))))
  (pss_cons (ps_if (pt_not (pt_val (pe_call (ok_law_same A) (hr.mono (by omega)) rfl A.law_same.m A.law_same.F.kp A.law_same.b .nil pass0 (pa_cons (pe_call (ok_law_asked A G R Z Z1 Z2) (hr.mono (by omega)) rfl A.law_asked.m A.law_asked.F.kp A.law_asked.b .nil pass0 (pa_cons (pv 2) (pa_cons (pv 3) (pa_cons (pv 9) pa_nil)))) (pa_cons (pe_call (ok_law_due A) (hr.mono (by omega)) rfl A.law_due.m A.law_due.F.kp A.law_due.b .nil pass0 (pa_cons (pv 2) (pa_cons (pv 3) (pa_cons (pv 9) pa_nil)))) pa_nil)))))
    (pss_one (ps_ret pe_bl))
    pss_nil)
  (pss_one (ps_if (pt_not (pt_val (pe_call (ok_law_same A) (hr.mono (by omega)) rfl A.law_same.m A.law_same.F.kp A.law_same.b .nil pass0 (pa_cons (pe_call (ok_law_asked A G R Z Z1 Z2) (hr.mono (by omega)) rfl A.law_asked.m A.law_asked.F.kp A.law_asked.b .nil pass0 (pa_cons (pv 2) (pa_cons (pv 8) (pa_cons (pv 9) pa_nil)))) (pa_cons (pe_call (ok_law_due A) (hr.mono (by omega)) rfl A.law_due.m A.law_due.F.kp A.law_due.b .nil pass0 (pa_cons (pv 2) (pa_cons (pv 8) (pa_cons (pv 9) pa_nil)))) pa_nil)))))
    (pss_one (ps_ret pe_bl))
    pss_nil))))))
    pss_nil)
  (pss_cut (ps_set (i := 10) sc_law.nd rfl (Or.inl rfl) (pe_call (ok_law_pick A) (hr.mono (by omega)) rfl A.law_pick.m A.law_pick.F.kp A.law_pick.b .nil pass0 (pa_cons (pv 1) (pa_cons (pe_tup (pa_cons (pe_lst pa_nil) (pa_cons (pe_lst (pa_cons (pe_tup (pa_cons pe_str pa_nil)) pa_nil)) (pa_cons (pe_lst (pa_cons (pe_tup (pa_cons pe_str (pa_cons pe_int pa_nil))) pa_nil)) (pa_cons (pe_lst (pa_cons (pe_tup (pa_cons pe_str (pa_cons pe_int pa_nil))) (pa_cons (pe_tup (pa_cons pe_str (pa_cons pe_int (pa_cons pe_int pa_nil)))) pa_nil))) (pa_cons (pe_lst (pa_cons (pe_tup (pa_cons pe_str (pa_cons pe_int pa_nil))) (pa_cons (pe_tup (pa_cons pe_str pa_nil)) (pa_cons (pe_tup (pa_cons pe_str (pa_cons pe_int (pa_cons pe_int pa_nil)))) (pa_cons (pe_tup (pa_cons pe_str (pa_cons pe_int (pa_cons pe_int pa_nil)))) pa_nil))))) pa_nil)))))) pa_nil))))
  (pss_cons (ps_set (i := 11) sc_law.nd rfl (Or.inl rfl) (pe_call (ok_law_next A) (hr.mono (by omega)) rfl A.law_next.m A.law_next.F.kp A.law_next.b .nil pass0 (pa_cons (pv 1) (pa_cons (pe_callB (call_max2 rfl) (by rfl) A.T.max (by decide +kernel) (pa_cons (pe_callB call_len_seq (by rfl) A.T.len PySem.boot_len (pa_cons (pv 10) pa_nil)) (pa_cons pe_int pa_nil))) pa_nil))))
  (pss_one (ps_ret (pe_call (ok_law_same A) (hr.mono (by omega)) rfl A.law_same.m A.law_same.F.kp A.law_same.b .nil pass0 (pa_cons (pe_call (ok_law_asked A G R Z Z1 Z2) (hr.mono (by omega)) rfl A.law_asked.m A.law_asked.F.kp A.law_asked.b .nil pass0 (pa_cons (pv 2) (pa_cons (pv 10) (pa_cons (pv 11) pa_nil)))) (pa_cons (pe_call (ok_law_due A) (hr.mono (by omega)) rfl A.law_due.m A.law_due.F.kp A.law_due.b .nil pass0 (pa_cons (pv 2) (pa_cons (pv 10) (pa_cons (pv 11) pa_nil)))) pa_nil)))))))))))))))), ?_⟩
    walk_at "rd"
    refine ⟨a, ns, rfl, hS, hl, fun s H1 ns1 hs1 a1 => ?_⟩
    walk_at "rd"
    refine ⟨by show 3 ≤ sizeLine; decide, fun p0 n0 => ?_⟩
    walk_at "rd"
    have e0 : Adv [] H1 (upd H1 p0 (.tup [.str "negative", .str "boxed", .str "doubled"])) := Adv.new n0
    have ps : p0 ≠ s := fun z => hs1.here (by rw [← z]; exact n0)
    have hss : StrAt [s] H1 s := by
      obtain ⟨l, ms, c, k, h1, h2, h3, h4, h5⟩ := hs1
      refine ⟨l, ms, c, k, h1, h2, h3, h4, fun z => ?_⟩
      have e : l = s := by simpa using z
      exact ne_of h2 h1 (ne_lst_ints).symm e
    refine ⟨s, p0, [.str "negative", .str "boxed", .str "doubled"], [s], rfl, hss.same e0, .inr upd_same, ps, by simp, by simp, fun x H2 hx hs2 a2 => ?_⟩
    obtain ⟨wd, rfl⟩ : ∃ wd : W3, x = .str wd.str := by
      simp at hx
      rcases hx with h | h | h
      · exact ⟨.neg, h⟩
      · exact ⟨.box, h⟩
      · exact ⟨.dou, h⟩
    walk_at "rd"
    refine ⟨⟨[s], s, wd, rfl, hs2, by simp, by simpa using hs2.here, fun sh rs H3 nsh hsh X l1 l2 hs3 a3 => ?_⟩⟩
    have nsM : sh ∉ [s] := fun z => hs2.here (by rw [← List.mem_singleton.mp z]; exact nsh)
    obtain ⟨d, hd, dz, dd⟩ := rw_big X hsh nsM l2
    have T3 : LSt s sh rs d H3 := ⟨hs3, hsh, nsM, X, hd⟩
    walk_at "rd"
    refine ⟨fun σ' H' => ∃ row : Int, σ' = [some (.ref a), some (.ref s), some (.str wd.str), some (.ref sh), some (.int row), none, none, none, none, none, none, none] ∧ LSt s sh rs d H', ?_, ?_⟩
    · walk_at "rd"
      refine ⟨s, 3, [s], rfl, hs3, by decide, by decide, fun t H4 t0 t1 hs4 a4 => ?_⟩
      have T4 := T3.next a4 hs4
      have hsh4 := T4.hsh
      walk_at "rd"
      refine iteB (fun e => ?_) (fun e => ?_)
      · walk_at "rd"
        refine ⟨s, _, [s], rfl, hs4, by split <;> omega, by split <;> omega, fun t2 H5 u0 u1 hs5 a5 => ?_⟩
        walk_at "rd"
        exact ⟨_, rfl, T4.next a5 hs5⟩
      · walk_at "rd"
        refine ⟨s, rs.length, [s], rfl, hs4, by omega, by omega, fun t2 H5 u0 u1 hs5 a5 => ?_⟩
        walk_at "rd"
        exact ⟨_, rfl, T4.next a5 hs5⟩
    · rintro σ' H4 ⟨row, rfl, T4⟩
      obtain ⟨e, hD⟩ := due_ex wd d (.int row)
      walk_at "rd"
      refine ⟨⟨[s], wd, .ref sh, .int row, d, .int row, e, rfl, T4.al, T4.is, Is.int, len_sz dz, hD, fun dv H5 id a5 => ?_⟩⟩
      have T5 := T4.same a5
      walk_at "rd"
      refine ⟨⟨[s], wd, .ref sh, .int row, d, .int row, e, rfl, T5.al, T5.is, Is.int, dd, dz, hD, fun tv H6 it a6 hT => ?_⟩⟩
      have T6 := T5.same a6
      walk_at "rd"
      have id6 := id.adv (Adv.nil a6)
      refine ⟨tv, dv, e, rfl, it.less (by simp), id6.less (by simp), due_sz hD, fun H7 a7 => ?_⟩
      have T7 := T6.same a7
      have id7 := id6.adv (Adv.nil a7)
      walk_at "rd"
      refine ⟨fun σ' H' => ∃ y6 y7, σ' = [some (.ref a), some (.ref s), some (.str wd.str), some (.ref sh), some (.int row), some dv, y6, y7, none, none, none, none] ∧ LSt s sh rs d H', ?_, ?_⟩
      · obtain ⟨tg, pl, rfl⟩ : ∃ (tg : Str) (pl : PyData), e = .tuple [.str tg, pl] := by cases hD <;> exact ⟨_, _, rfl⟩
        obtain ⟨td, d1, d2, rfl, htd, h1, h2⟩ := id7.pair
        cases h1.strE
        have sqd := htd.sq A.W
        walk_at "rd"
        refine iteB (fun eb => ?_) (fun eb => ?_)
        · have etg : tg = "told" := by
            have := of_decide_eq_true eb
            injection this
          subst etg
          obtain ⟨es, i, rfl⟩ : ∃ es i, pl = .tuple [.list es, .int i] := by cases hD; exact ⟨_, _, rfl⟩
          obtain ⟨t1, t2, L, rs3, rfl, ht1, ht2, hL, hlen, nL⟩ := hT es i rfl
          have sq1 := SqT.of (K := K) (a7.same _ _ ht1)
          have sq2 := SqT.of (K := K) (a7.same _ _ ht2)
          have hL7 := a7.same _ _ hL
          walk_at "rd"
          refine ⟨by show 2 ≤ sizeLine; decide, fun p1 n1 => ?_⟩
          walk_at "rd"
          have c1 : Adv [] _ _ := Adv.new (o := .tup [.str "letter", .int 9]) n1
          have hlr : rs3.length ≤ 1000000 := by
            have h1 := due_sz hD
            rw [sz_tup, szL_cons, szL_cons, szL_nil, sz_tup, szL_cons, szL_cons, szL_nil, sz_lst] at h1
            have := szL_len es
            omega
          refine rd_app (c1.same _ _ hL7) (by rw [sizeLine_eq]; omega) ?_
          have c2 : Adv [L] _ (upd (upd H7 p1 (.tup [.str "letter", .int 9])) L (.lst (rs3 ++ [.ref p1]))) := Adv.set (by simp)
          walk_at "rd"
          refine ⟨by show 2 ≤ sizeLine; decide, fun p2 n2 => ?_⟩
          have c3 : Adv [] _ _ := Adv.new (o := .tup [.str "no", .int 1]) n2
          walk_at "rd"
          refine ⟨L, rs3 ++ [.ref p1], 0, 0, rfl, rfl, c3.same _ _ upd_same, ixN_of (n := (rs3 ++ [V.ref p1]).length) (j := 0) (by simp), ?_⟩
          have c4 : Adv [L] _ (upd (upd (upd (upd H7 p1 (.tup [.str "letter", .int 9])) L (.lst (rs3 ++ [.ref p1]))) p2 (.tup [.str "no", .int 1])) L (.lst ((rs3 ++ [V.ref p1]).set 0 (V.ref p2)))) := Adv.set (by simp)
          have c56 : Adv [L] H5 _ := ((Adv.nil ((a6.trans a7).trans c1)).trans c2).trans ((Adv.nil c3).trans c4)
          have cc := c56.drop nL
          have TC := T5.same cc
          have idC := id.adv (Adv.nil cc)
          walk_at "rd"
          refine ⟨⟨[s], wd, .ref sh, .int row, d, .int row, _, rfl, TC.al, TC.is, Is.int, dd, dz, hD, fun tv H9 it9 a9 _ => ?_⟩⟩
          walk_at "rd"
          refine ⟨tv, _, _, rfl, it9.less (by simp), (idC.adv (Adv.nil a9)).less (by simp), due_sz hD, fun H10 a10 => ?_⟩
          walk_at "rd"
          exact ⟨_, _, rfl, (TC.same a9).same a10⟩
        · walk_at "rd"
          exact ⟨_, _, rfl, T7⟩
      · rintro σ' H8 ⟨y6, y7, rfl, T8⟩
        have hsh8 := T8.hsh
        walk_at "rd"
        refine ⟨fun σ' H' => ∃ y6 y7 y8 y9, σ' = [some (.ref a), some (.ref s), some (.str wd.str), some (.ref sh), some (.int row), some dv, y6, y7, y8, y9, none, none] ∧ LSt s sh rs d H', ?_, ?_⟩
        · walk_at "rd"
          refine iteB (fun eb => ?_) (fun eb => ?_)
          · walk_at "rd"
            refine ⟨⟨[s], s, sh, rs, rfl, T8.str, by simp, T8.al, T8.hsh, T8.ne, T8.X, l2, fun bv H9 hb hs9 a9 => ?_⟩⟩
            obtain ⟨db, ib, bz, bd⟩ := hb
            have T9 := T8.next a9 hs9
            obtain ⟨e2, hD2⟩ := due_ex wd db (.int row)
            walk_at "rd"
            refine ⟨⟨[s], wd, bv, .int row, db, .int row, e2, rfl, T9.al, ib, Is.int, bd, bz, hD2, fun vx Hx1 ix1 ax1 _ => ?_⟩⟩
            walk_at "rd"
            refine ⟨⟨[s], wd, bv, .int row, db, .int row, e2, rfl, alloc_adv T9.al ax1 (by simp), (ib).adv (Adv.nil ax1), (Is.int).adv (Adv.nil ax1), len_sz bz, hD2, fun ux Hx2 ix2 ax2 => ?_⟩⟩
            walk_at "rd"
            refine ⟨vx, ux, e2, rfl, (ix1.adv (Adv.nil ax2)).less (by simp), ix2.less (by simp), due_sz hD2, fun Hx3 ax3 => ?_⟩
            have gx := (ax1.trans ax2).trans ax3
            walk_at "rd"
            have Tx := T9.same gx
            have ibx := ib.adv (Adv.nil gx)
            have hshx := Tx.hsh
            walk_at "rd"
            refine ⟨by show 1 ≤ sizeLine; decide, fun p1 n1 => ?_⟩
            have j1 := smd_new (xs := [V.int row]) Tx.al n1 rfl (by simp)
            have e1 : Adv [] _ _ := Adv.new (o := .tup [.int row]) n1
            walk_at "rd"
            refine ⟨by show 1 ≤ sizeLine; decide, fun p2 n2 => ?_⟩
            have T1 := Tx.same e1
            have j2 := sm_lst (M := [s]) (ks := [.inl row]) (new_at (o := .lst [.int row]) n2) (not_mem_new T1.al n2) (by simp)
            have e2' : Adv [] _ _ := Adv.new (o := .lst [.int row]) n2
            have T2 := T1.same e2'
            walk_at "rd"
            refine ⟨by show 10 ≤ sizeLine; decide, fun p3 n3 => ?_⟩
            have e3 : Adv [] _ _ := Adv.new (o := .tup [.int (-1), .int (rs.length : Nat), .int ((rs.length : Nat) + 7), .bl true, .bl false, .non, .str "0", .ref p1, .ref p2, .int 0]) n3
            have T3' := T2.same e3
            have Y : SmDs [s] _ [.int (-1), .int (rs.length : Nat), .int ((rs.length : Nat) + 7), .bl true, .bl false, .non, .str "0", .ref p1, .ref p2, .int 0] := .cons (.sc rfl) (.cons (.sc rfl) (.cons (.sc rfl) (.cons (.sc rfl) (.cons (.sc rfl) (.cons (.sc rfl) (.cons (.sc rfl) (.cons (j1.adv (Adv.nil (e2'.trans e3))) (.cons (j2.adv (Adv.nil e3)) (.cons (.sc rfl) .nil)))))))))
            refine ⟨s, p3, _, [s], rfl, T3'.str, .inr upd_same, fun z => T2.str.here (by rw [← z]; exact n3), by simp, by simp, fun ov H10 ho hs10 a10 => ?_⟩
            obtain ⟨dr, io, _, _⟩ := (Y.mem ho).adv a10
            have T10 := T3'.next a10 hs10
            have ib10 := (ibx.adv (Adv.nil ((e1.trans e2').trans e3))).adv a10
            obtain ⟨e3', hD3⟩ := due_ex wd d dr
            walk_at "rd"
            refine ⟨⟨[s], wd, (.ref sh), ov, d, dr, e3', rfl, T10.al, T10.is, io, dd, dz, hD3, fun vy Hy1 iy1 ay1 _ => ?_⟩⟩
            walk_at "rd"
            refine ⟨⟨[s], wd, (.ref sh), ov, d, dr, e3', rfl, alloc_adv T10.al ay1 (by simp), (T10.is).adv (Adv.nil ay1), (io).adv (Adv.nil ay1), len_sz dz, hD3, fun uy Hy2 iy2 ay2 => ?_⟩⟩
            walk_at "rd"
            refine ⟨vy, uy, e3', rfl, (iy1.adv (Adv.nil ay2)).less (by simp), iy2.less (by simp), due_sz hD3, fun Hy3 ay3 => ?_⟩
            have gy := (ay1.trans ay2).trans ay3
            walk_at "rd"
            have Ty := T10.same gy
            have iby := ib10.adv (Adv.nil gy)
            have ioy := io.adv (Adv.nil gy)
            obtain ⟨e4, hD4⟩ := due_ex wd db dr
            walk_at "rd"
            refine ⟨⟨[s], wd, bv, ov, db, dr, e4, rfl, Ty.al, iby, ioy, bd, bz, hD4, fun vz Hz1 iz1 az1 _ => ?_⟩⟩
            walk_at "rd"
            refine ⟨⟨[s], wd, bv, ov, db, dr, e4, rfl, alloc_adv Ty.al az1 (by simp), (iby).adv (Adv.nil az1), (ioy).adv (Adv.nil az1), len_sz bz, hD4, fun uz Hz2 iz2 az2 => ?_⟩⟩
            walk_at "rd"
            refine ⟨vz, uz, e4, rfl, (iz1.adv (Adv.nil az2)).less (by simp), iz2.less (by simp), due_sz hD4, fun Hz3 az3 => ?_⟩
            have gz := (az1.trans az2).trans az3
            walk_at "rd"
            exact ⟨_, _, _, _, rfl, Ty.same gz⟩
          · walk_at "rd"
            exact ⟨_, _, _, _, rfl, T8⟩
        · rintro σ' H9 ⟨y6, y7, y8, y9, rfl, T9⟩
          refine ⟨fun σ' H' => ∃ y6 y7 y8 y9 x, σ' = [some (.ref a), some (.ref s), some (.str wd.str), some (.ref sh), some (.int row), some dv, y6, y7, y8, y9, some x, none] ∧ LSt s sh rs d H' ∧ LQ [s] H' x, ?_, ?_⟩
          · walk_at "rd"
            refine ⟨Nat.zero_le _, fun m1 nm1 => ?_⟩
            have em1 : Adv [] _ _ := Adv.new (o := .lst []) nm1
            have qm1 : LQ [s] _ (.ref m1) := ⟨m1, _, rfl, new_at nm1, not_mem_new T9.al nm1, .nil, by simp⟩
            have Tm1 := T9.same em1
            walk_at "rd"
            refine ⟨by show 1 ≤ sizeLine; decide, fun a1 na1 => ?_⟩
            have ea1 : Adv [] _ _ := Adv.new (o := .tup [V.str "no"]) na1
            have ra1 := rw_new (ks := [.inr "no"]) Tm1.al na1 (by simp)
            have Ta1 := Tm1.same ea1
            walk_at "rd"
            refine ⟨by show 1 ≤ sizeLine; decide, fun m2 nm2 => ?_⟩
            have em2 : Adv [] _ _ := Adv.new (o := .lst [V.ref a1]) nm2
            have qm2 : LQ [s] _ (.ref m2) := ⟨m2, _, rfl, new_at nm2, not_mem_new Ta1.al nm2, (.cons (ra1.adv (Adv.nil em2)) .nil), by simp⟩
            have Tm2 := Ta1.same em2
            walk_at "rd"
            refine ⟨by show 2 ≤ sizeLine; decide, fun b1 nb1 => ?_⟩
            have eb1 : Adv [] _ _ := Adv.new (o := .tup [V.str "letter", .int 4]) nb1
            have rb1 := rw_new (ks := [.inr "letter", .inl 4]) Tm2.al nb1 (by simp)
            have Tb1 := Tm2.same eb1
            walk_at "rd"
            refine ⟨by show 1 ≤ sizeLine; decide, fun m3 nm3 => ?_⟩
            have em3 : Adv [] _ _ := Adv.new (o := .lst [V.ref b1]) nm3
            have qm3 : LQ [s] _ (.ref m3) := ⟨m3, _, rfl, new_at nm3, not_mem_new Tb1.al nm3, (.cons (rb1.adv (Adv.nil em3)) .nil), by simp⟩
            have Tm3 := Tb1.same em3
            walk_at "rd"
            refine ⟨by show 2 ≤ sizeLine; decide, fun c1 nc1 => ?_⟩
            have ec1 : Adv [] _ _ := Adv.new (o := .tup [V.str "letter", .int 2]) nc1
            have rc1 := rw_new (ks := [.inr "letter", .inl 2]) Tm3.al nc1 (by simp)
            have Tc1 := Tm3.same ec1
            walk_at "rd"
            refine ⟨by show 3 ≤ sizeLine; decide, fun c2 nc2 => ?_⟩
            have ec2 : Adv [] _ _ := Adv.new (o := .tup [V.str "or", .int 0, .int 0]) nc2
            have rc2 := rw_new (ks := [.inr "or", .inl 0, .inl 0]) Tc1.al nc2 (by simp)
            have Tc2 := Tc1.same ec2
            walk_at "rd"
            refine ⟨by show 2 ≤ sizeLine; decide, fun m4 nm4 => ?_⟩
            have em4 : Adv [] _ _ := Adv.new (o := .lst [V.ref c1, V.ref c2]) nm4
            have qm4 : LQ [s] _ (.ref m4) := ⟨m4, _, rfl, new_at nm4, not_mem_new Tc2.al nm4, (.cons (rc1.adv (Adv.nil (ec2.trans em4))) (.cons (rc2.adv (Adv.nil em4)) .nil)), by simp⟩
            have Tm4 := Tc2.same em4
            walk_at "rd"
            refine ⟨by show 2 ≤ sizeLine; decide, fun d1 nd1 => ?_⟩
            have ed1 : Adv [] _ _ := Adv.new (o := .tup [V.str "letter", .int 0]) nd1
            have rd1 := rw_new (ks := [.inr "letter", .inl 0]) Tm4.al nd1 (by simp)
            have Td1 := Tm4.same ed1
            walk_at "rd"
            refine ⟨by show 1 ≤ sizeLine; decide, fun d2 nd2 => ?_⟩
            have ed2 : Adv [] _ _ := Adv.new (o := .tup [V.str "no"]) nd2
            have rd2 := rw_new (ks := [.inr "no"]) Td1.al nd2 (by simp)
            have Td2 := Td1.same ed2
            walk_at "rd"
            refine ⟨by show 3 ≤ sizeLine; decide, fun d3 nd3 => ?_⟩
            have ed3 : Adv [] _ _ := Adv.new (o := .tup [V.str "if", .int 0, .int 1]) nd3
            have rd3 := rw_new (ks := [.inr "if", .inl 0, .inl 1]) Td2.al nd3 (by simp)
            have Td3 := Td2.same ed3
            walk_at "rd"
            refine ⟨by show 3 ≤ sizeLine; decide, fun d4 nd4 => ?_⟩
            have ed4 : Adv [] _ _ := Adv.new (o := .tup [V.str "or", .int 0, .int 2]) nd4
            have rd4 := rw_new (ks := [.inr "or", .inl 0, .inl 2]) Td3.al nd4 (by simp)
            have Td4 := Td3.same ed4
            walk_at "rd"
            refine ⟨by show 4 ≤ sizeLine; decide, fun m5 nm5 => ?_⟩
            have em5 : Adv [] _ _ := Adv.new (o := .lst [V.ref d1, V.ref d2, V.ref d3, V.ref d4]) nm5
            have qm5 : LQ [s] _ (.ref m5) := ⟨m5, _, rfl, new_at nm5, not_mem_new Td4.al nm5, (.cons (rd1.adv (Adv.nil (((ed2.trans ed3).trans ed4).trans em5))) (.cons (rd2.adv (Adv.nil ((ed3.trans ed4).trans em5))) (.cons (rd3.adv (Adv.nil (ed4.trans em5))) (.cons (rd4.adv (Adv.nil em5)) .nil)))), by simp⟩
            have Tm5 := Td4.same em5
            walk_at "rd"
            refine ⟨by show 5 ≤ sizeLine; decide, fun z nz => ?_⟩
            have ez : Adv [] _ _ := Adv.new (o := .tup [V.ref m1, V.ref m2, V.ref m3, V.ref m4, V.ref m5]) nz
            have Tz := Tm5.same ez
            have w1 := qm1.adv (Adv.nil ((((((((((((ea1.trans em2).trans eb1).trans em3).trans ec1).trans ec2).trans em4).trans ed1).trans ed2).trans ed3).trans ed4).trans em5).trans ez))
            have w2 := qm2.adv (Adv.nil ((((((((((eb1.trans em3).trans ec1).trans ec2).trans em4).trans ed1).trans ed2).trans ed3).trans ed4).trans em5).trans ez))
            have w3 := qm3.adv (Adv.nil ((((((((ec1.trans ec2).trans em4).trans ed1).trans ed2).trans ed3).trans ed4).trans em5).trans ez))
            have w4 := qm4.adv (Adv.nil (((((ed1.trans ed2).trans ed3).trans ed4).trans em5).trans ez))
            have w5 := qm5.adv (Adv.nil ez)
            refine ⟨s, z, _, [s], rfl, Tz.str, .inr (new_at nz), fun y => Tm5.str.here (by rw [← y]; exact nz), by simp, by simp, fun x HA hx hsA aA => ?_⟩
            have xq : LQ [s] HA x := by
              have hx' : x = .ref m1 ∨ x = .ref m2 ∨ x = .ref m3 ∨ x = .ref m4 ∨ x = .ref m5 := by simpa using hx
              rcases hx' with rfl | rfl | rfl | rfl | rfl
              · exact w1.adv aA
              · exact w2.adv aA
              · exact w3.adv aA
              · exact w4.adv aA
              · exact w5.adv aA
            have TA := Tz.next aA hsA
            walk_at "rd"
            exact ⟨_, _, _, _, _, rfl, TA, xq⟩
          rintro σ' HA ⟨y6, y7, y8, y9, x, rfl, TA, xq⟩
          obtain ⟨l, ws, rfl, hlw, lM, XW, lw⟩ := xq
          walk_at "rd"
          refine ⟨s, _, [s], rfl, TA.str, by split <;> omega, by split <;> omega, fun t HB t0 t1 hsB aB => ?_⟩
          have TB := TA.next aB hsB
          obtain ⟨ds, ids, dsz, dsd⟩ := rw_big (XW.adv aB) (aB _ _ lM hlw) lM lw
          obtain ⟨e5, hD5⟩ := due_ex wd ds (.int t)
          walk_at "rd"
          refine ⟨⟨[s], wd, (.ref l), .int t, ds, .int t, e5, rfl, TB.al, ids, Is.int, dsd, dsz, hD5, fun vk Hk1 ik1 ak1 _ => ?_⟩⟩
          walk_at "rd"
          refine ⟨⟨[s], wd, (.ref l), .int t, ds, .int t, e5, rfl, alloc_adv TB.al ak1 (by simp), (ids).adv (Adv.nil ak1), (Is.int).adv (Adv.nil ak1), len_sz dsz, hD5, fun uk Hk2 ik2 ak2 => ?_⟩⟩
          walk_at "rd"
          refine ⟨vk, uk, e5, rfl, (ik1.adv (Adv.nil ak2)).less (by simp), ik2.less (by simp), due_sz hD5, fun Hk3 ak3 => ?_⟩
          have gk := (ak1.trans ak2).trans ak3
          exact q _
end
end K59

set_option Elab.async false
set_option linter.all false
set_option maxRecDepth 100000
set_option maxHeartbeats 4000000
namespace K59
open PySem PySem.Spec PyProof.Rows L2 LL
/-! what the top has written -/
theorem kit_of {K : PySem.W.Frag} {D C : Addr} {b : Bool} (ht : PySem.W.typeIn K (.ref C) = some (.type "type")) (hd : PySem.W.hasDictIn K C = true) (h : PySem.W.subIn K (.ref D) (.ref C) = some b) (self : PySem.W.subIn K (.ref D) (.ref D) = some true) : PySem.W.kitOne K (.ref D) (.ref C) = some b := by
  unfold PySem.W.kitOne
  by_cases e : D = C
  · subst e
    rw [h] at self
    rw [if_pos (by simp)]
    exact self.symm
  · rw [if_neg (by simpa using e)]
    obtain ⟨cd, hc, _⟩ := PySem.W.any_some hd
    show (if ((PySem.W.clsIn K C).isSome && PySem.W.typeIn K (.ref C) == some (.type "type")) = true then PySem.W.subIn K (.ref D) (.ref C) else none) = some b
    rw [if_pos (by rw [hc, ht]; rfl)]
    exact h
theorem kit_val {K : PySem.W.Frag} {D : Addr} (h : PySem.W.subIn K (.ref D) (.type "ValueError") = some true) : PySem.W.kitOne K (.ref D) (.type "ValueError") = some true := by
  unfold PySem.W.kitOne
  rw [if_neg (by simp)]
  show (if PySem.W.kitMeta "ValueError" = true then PySem.W.subIn K (.ref D) (.type "ValueError") else none) = some true
  rw [if_pos (by decide +kernel)]
  exact h
theorem rv_str {x : Str} {t : Tok} : RelV (.str x) (.str x t) := ⟨t, rfl⟩
theorem sqT_K {K : PySem.W.Frag} {a : Addr} {od : Option Addr} {its : Array Value} {n : Nat} {sl : Array (Option Value)} {xs : List V} (h : K.lookup a = some ⟨.type "tuple", od, .seq its n, sl⟩) (hz : its.size ≤ sizeLine) (r : Vals xs its.toList) (H : Hp) : SqT K H a xs :=
  .inr ⟨_, its, n, h, rfl, rfl, hz, r⟩
theorem find_map {z : Str} : ∀ l : List DictEntry, (l.find? (·.key.isStr z)).map (·.val) = ((l.map fun e => (e.key, e.val)).find? fun p => p.1.isStr z).map (·.2)
  | [] => rfl
  | e :: l => by
    rw [List.map_cons, List.find?_cons, List.find?_cons]
    show Option.map _ (match e.key.isStr z with | true => _ | false => _) = Option.map _ (match e.key.isStr z with | true => _ | false => _)
    cases e.key.isStr z with
    | true => rfl
    | false => exact find_map l
theorem any_map : ∀ l : List DictEntry, l.any (·.refKey) = (l.map fun e => (e.key, e.val)).any fun p => match p.1 with | .ref _ => true | _ => false
  | [] => rfl
  | e :: l => by
    rw [List.map_cons, List.any_cons, List.any_cons, any_map l]
    rfl
theorem items_at {K : PySem.W.Frag} {a : Addr} {es : Array DictEntry} {n : Nat} {i1 i2 i3 i4 i5 i6 j1 j2 j3 j4 j5 j6 : Tok} (h : K.lookup a = some ⟨.type "dict", none, .dict es n, #[]⟩)
    (e : es.toList.map (fun e => (e.key, e.val)) = [(.str "letter" i1, .int 2 j1), (.str "no" i2, .int 1 j2), (.str "and" i3, .int 3 j3), (.str "or" i4, .int 3 j4), (.str "if" i5, .int 3 j5), (.str "box" i6, .int 2 j6)]) (z : Str) :
    ∃ r, PySem.W.nsIn K a z = some r ∧ RelV (match nItems z with | some k => V.int (k : Nat) | none => V.non) (r.getD .none) := by
  have f := find_map (z := z) es.toList
  have g := any_map es.toList
  rw [e] at f g
  have g' : es.toList.any (·.refKey) = false := g
  unfold PySem.W.nsIn
  rw [h]
  show ∃ r, (match es.toList.find? (·.key.isStr z) with | some e => some (some e.val) | none => if es.toList.any (·.refKey) then none else some none) = some r ∧ _
  rw [g']
  have step : ∀ r : Option Value, (es.toList.find? (·.key.isStr z)).map (·.val) = r → RelV (match nItems z with | some k => V.int (k : Nat) | none => V.non) (r.getD .none) →
      ∃ r, (match es.toList.find? (·.key.isStr z) with | some e => some (some e.val) | none => if false = true then none else some none) = some r ∧ RelV (match nItems z with | some k => V.int (k : Nat) | none => V.non) (r.getD .none) := by
    intro r hr rel
    cases q : es.toList.find? (·.key.isStr z) with
    | none =>
      rw [q] at hr
      exact ⟨none, rfl, by rw [← hr] at rel; exact rel⟩
    | some en =>
      rw [q] at hr
      exact ⟨some en.val, rfl, by rw [← hr] at rel; exact rel⟩
  refine step _ f ?_
  have iS : ∀ (x : Str) (t : Tok), Value.isStr (.str x t) z = (x == z) := fun _ _ => rfl
  by_cases h1 : z = "letter"
  · subst h1; exact ⟨_, rfl⟩
  by_cases h2 : z = "no"
  · subst h2; exact ⟨_, rfl⟩
  by_cases h3 : z = "and"
  · subst h3; exact ⟨_, rfl⟩
  by_cases h4 : z = "or"
  · subst h4; exact ⟨_, rfl⟩
  by_cases h5 : z = "if"
  · subst h5; exact ⟨_, rfl⟩
  by_cases h6 : z = "box"
  · subst h6; exact ⟨_, rfl⟩
  have n0 : nItems z = none := by
    unfold nItems
    rw [if_neg h1, if_neg h2, if_neg h3, if_neg h4, if_neg h5, if_neg h6]
  rw [n0]
  have ne : ∀ x : Str, z ≠ x → (x == z) = false := fun x hx => by simpa using fun e => hx e.symm
  simp only [List.find?_cons, iS, ne _ h1, ne _ h2, ne _ h3, ne _ h4, ne _ h5, ne _ h6, List.find?_nil]
  rfl
/-- the tuples of the written part, and how a tuple key is hashed -/
def kwOf (K : PySem.W.Frag) (P : Program) (w : World) : KW := ⟨fun a vs => ∃ (o : Obj) (its : Array Value) (n : Nat), K.lookup a = some o ∧ o.cls = .type "tuple" ∧ o.data = .seq its n ∧ its.size ≤ sizeLine ∧ Vals vs its.toList, fun ks => (tupleKind (mixKind P w)).hash ks⟩
theorem all_mk {P : Program} {w : World} {K : PySem.W.Frag} {h : Heap} {mg : Str → Option Value} {fa : Addr} (X : K.In h) (G : h.Ns mainGlobals mg) (hfa : mg "law" = some (.ref fa))
    {od1 an1 : Option Addr} {sl1 : Array (Option Value)} {oc1 kV1 dc1 pm1 cd1 ct1 : Value} {f1 : Addr}
    {od2 an2 : Option Addr} {sl2 : Array (Option Value)} {oc2 kV2 dc2 pm2 cd2 ct2 : Value} {f2 : Addr}
    {od3 an3 : Option Addr} {sl3 : Array (Option Value)} {oc3 kV3 dc3 pm3 cd3 ct3 : Value} {f3 : Addr}
    {od4 an4 : Option Addr} {sl4 : Array (Option Value)} {oc4 kV4 dc4 pm4 cd4 ct4 : Value} {f4 : Addr}
    {od5 an5 : Option Addr} {sl5 : Array (Option Value)} {oc5 kV5 dc5 pm5 cd5 ct5 : Value} {f5 : Addr}
    {od6 an6 : Option Addr} {sl6 : Array (Option Value)} {oc6 kV6 dc6 pm6 cd6 ct6 : Value} {f6 : Addr}
    {od7 an7 : Option Addr} {sl7 : Array (Option Value)} {oc7 kV7 dc7 pm7 cd7 ct7 : Value} {f7 : Addr}
    {od8 an8 : Option Addr} {sl8 : Array (Option Value)} {oc8 kV8 dc8 pm8 cd8 ct8 : Value} {f8 : Addr}
    {od9 an9 : Option Addr} {sl9 : Array (Option Value)} {oc9 kV9 dc9 pm9 cd9 ct9 : Value} {f9 : Addr}
    {od10 an10 : Option Addr} {sl10 : Array (Option Value)} {oc10 kV10 dc10 pm10 cd10 ct10 : Value} {f10 : Addr}
    {od11 an11 : Option Addr} {sl11 : Array (Option Value)} {oc11 kV11 dc11 pm11 cd11 ct11 : Value} {f11 : Addr}
    {od12 an12 : Option Addr} {sl12 : Array (Option Value)} {oc12 kV12 dc12 pm12 cd12 ct12 : Value} {f12 : Addr}
    {od13 an13 : Option Addr} {sl13 : Array (Option Value)} {oc13 kV13 dc13 pm13 cd13 ct13 : Value} {f13 : Addr}
    {od14 an14 : Option Addr} {sl14 : Array (Option Value)} {oc14 kV14 dc14 pm14 cd14 ct14 : Value} {f14 : Addr}
    {od15 an15 : Option Addr} {sl15 : Array (Option Value)} {oc15 kV15 dc15 pm15 cd15 ct15 : Value} {f15 : Addr}
    {od16 an16 : Option Addr} {sl16 : Array (Option Value)} {oc16 kV16 dc16 pm16 cd16 ct16 : Value} {f16 : Addr}
    {od17 an17 : Option Addr} {sl17 : Array (Option Value)} {oc17 kV17 dc17 pm17 cd17 ct17 : Value} {f17 : Addr}
    {od18 an18 : Option Addr} {sl18 : Array (Option Value)} {oc18 kV18 dc18 pm18 cd18 ct18 : Value} {f18 : Addr}
    {od19 an19 : Option Addr} {sl19 : Array (Option Value)} {oc19 kV19 dc19 pm19 cd19 ct19 : Value} {f19 : Addr}
    {od20 an20 : Option Addr} {sl20 : Array (Option Value)} {oc20 kV20 dc20 pm20 cd20 ct20 : Value} {f20 : Addr}
    {od21 an21 : Option Addr} {sl21 : Array (Option Value)} {oc21 kV21 dc21 pm21 cd21 ct21 : Value} {f21 : Addr}
    {od22 an22 : Option Addr} {sl22 : Array (Option Value)} {oc22 kV22 dc22 pm22 cd22 ct22 : Value} {f22 : Addr}
    {od23 an23 : Option Addr} {sl23 : Array (Option Value)} {oc23 kV23 dc23 pm23 cd23 ct23 : Value} {f23 : Addr}
    {od24 an24 : Option Addr} {sl24 : Array (Option Value)} {oc24 kV24 dc24 pm24 cd24 ct24 : Value} {f24 : Addr}
    {od25 an25 : Option Addr} {sl25 : Array (Option Value)} {oc25 kV25 dc25 pm25 cd25 ct25 : Value} {f25 : Addr}
    {od26 an26 : Option Addr} {sl26 : Array (Option Value)} {oc26 kV26 dc26 pm26 cd26 ct26 : Value} {f26 : Addr}
    {od27 an27 : Option Addr} {sl27 : Array (Option Value)} {oc27 kV27 dc27 pm27 cd27 ct27 : Value} {f27 : Addr}
    {od28 an28 : Option Addr} {sl28 : Array (Option Value)} {oc28 kV28 dc28 pm28 cd28 ct28 : Value} {f28 : Addr}
    {od29 an29 : Option Addr} {sl29 : Array (Option Value)} {oc29 kV29 dc29 pm29 cd29 ct29 : Value} {f29 : Addr}
    {od30 an30 : Option Addr} {sl30 : Array (Option Value)} {oc30 kV30 dc30 pm30 cd30 ct30 : Value} {f30 : Addr}
    {od31 an31 : Option Addr} {sl31 : Array (Option Value)} {oc31 kV31 dc31 pm31 cd31 ct31 : Value} {f31 : Addr}
    {od32 an32 : Option Addr} {sl32 : Array (Option Value)} {oc32 kV32 dc32 pm32 cd32 ct32 : Value} {f32 : Addr}
    {od33 an33 : Option Addr} {sl33 : Array (Option Value)} {oc33 kV33 dc33 pm33 cd33 ct33 : Value} {f33 : Addr}
    {od34 an34 : Option Addr} {sl34 : Array (Option Value)} {oc34 kV34 dc34 pm34 cd34 ct34 : Value} {f34 : Addr}
    {od35 an35 : Option Addr} {sl35 : Array (Option Value)} {oc35 kV35 dc35 pm35 cd35 ct35 : Value} {f35 : Addr}
    {od36 an36 : Option Addr} {sl36 : Array (Option Value)} {oc36 kV36 dc36 pm36 cd36 ct36 : Value} {f36 : Addr}
    {od37 an37 : Option Addr} {sl37 : Array (Option Value)} {oc37 kV37 dc37 pm37 cd37 ct37 : Value} {f37 : Addr}
    {od38 an38 : Option Addr} {sl38 : Array (Option Value)} {oc38 kV38 dc38 pm38 cd38 ct38 : Value} {f38 : Addr}
    {od39 an39 : Option Addr} {sl39 : Array (Option Value)} {oc39 kV39 dc39 pm39 cd39 ct39 : Value} {f39 : Addr}
    {od40 an40 : Option Addr} {sl40 : Array (Option Value)} {oc40 kV40 dc40 pm40 cd40 ct40 : Value} {f40 : Addr}
    {od41 an41 : Option Addr} {sl41 : Array (Option Value)} {oc41 kV41 dc41 pm41 cd41 ct41 : Value} {f41 : Addr}
    {od42 an42 : Option Addr} {sl42 : Array (Option Value)} {oc42 kV42 dc42 pm42 cd42 ct42 : Value} {f42 : Addr}
    {od43 an43 : Option Addr} {sl43 : Array (Option Value)} {oc43 kV43 dc43 pm43 cd43 ct43 : Value} {f43 : Addr}
    {od44 an44 : Option Addr} {sl44 : Array (Option Value)} {oc44 kV44 dc44 pm44 cd44 ct44 : Value} {f44 : Addr}
    {od45 an45 : Option Addr} {sl45 : Array (Option Value)} {oc45 kV45 dc45 pm45 cd45 ct45 : Value} {f45 : Addr}
    {ai : Addr} {nI : Nat} {es : Array DictEntry} {i1 i2 i3 i4 i5 i6 j1 j2 j3 j4 j5 j6 : Tok}
    {t_LAST_LETTER : Tok}
    {t_MOST_PAPER_ROWS : Tok}
    {aNO : Addr} {odNO : Option Addr} {nNO : Nat} {slNO : Array (Option Value)} {mNO0 : Tok}
    {ar : Addr} {nR : Nat} {es2 : Array DictEntry}
    {aG : Addr}
    {odGinit anGinit : Option Addr} {slGinit : Array (Option Value)} {ocGinit kVGinit dcGinit pmGinit cdGinit ctGinit : Value} {fGinit : Addr}
    {odGnode_row anGnode_row : Option Addr} {slGnode_row : Array (Option Value)} {ocGnode_row kVGnode_row dcGnode_row pmGnode_row cdGnode_row ctGnode_row : Value} {fGnode_row : Addr}
    {odGdeny anGdeny : Option Addr} {slGdeny : Array (Option Value)} {ocGdeny kVGdeny dcGdeny pmGdeny cdGdeny ctGdeny : Value} {fGdeny : Addr}
    {cBadLogic cBadSheet cBadClaim cBadModel cBadPaper cBadTerm cBadEdit cBadValue cBadText cBadSize cTooMany cNotBoxed cNotProved cNotThere cNothingToUndo cNothingToRedo CE : Addr}
    {odEBadSheet anEBadSheet : Option Addr} {slEBadSheet : Array (Option Value)} {ocEBadSheet kVEBadSheet dcEBadSheet pmEBadSheet cdEBadSheet ctEBadSheet : Value} {fEBadSheet : Addr}
    {odEBadValue anEBadValue : Option Addr} {slEBadValue : Array (Option Value)} {ocEBadValue kVEBadValue dcEBadValue pmEBadValue cdEBadValue ctEBadValue : Value} {fEBadValue : Addr}
    (a1 : PySem.W.nsIn K mainGlobals "is_integer" = some (some (.ref f1)))
    (l1 : K.lookup f1 = some ⟨oc1, od1, .func (PySem.W.fnOf "is_integer" "is_integer" (defArgs s_is_integer) (defBody s_is_integer) (defScope s_is_integer) .none kV1 dc1 pm1 an1 cd1 ct1), sl1⟩)
    (c1 : PySem.W.codeIn K cd1 "is_integer" = true)
    (k1 : PySem.W.keepIn K (.ref f1) = true)
    (a2 : PySem.W.nsIn K mainGlobals "is_between" = some (some (.ref f2)))
    (l2 : K.lookup f2 = some ⟨oc2, od2, .func (PySem.W.fnOf "is_between" "is_between" (defArgs s_is_between) (defBody s_is_between) (defScope s_is_between) .none kV2 dc2 pm2 an2 cd2 ct2), sl2⟩)
    (c2 : PySem.W.codeIn K cd2 "is_between" = true)
    (k2 : PySem.W.keepIn K (.ref f2) = true)
    (a3 : PySem.W.nsIn K mainGlobals "is_node" = some (some (.ref f3)))
    (l3 : K.lookup f3 = some ⟨oc3, od3, .func (PySem.W.fnOf "is_node" "is_node" (defArgs s_is_node) (defBody s_is_node) (defScope s_is_node) .none kV3 dc3 pm3 an3 cd3 ct3), sl3⟩)
    (c3 : PySem.W.codeIn K cd3 "is_node" = true)
    (k3 : PySem.W.keepIn K (.ref f3) = true)
    (a4 : PySem.W.nsIn K mainGlobals "wrong_row" = some (some (.ref f4)))
    (l4 : K.lookup f4 = some ⟨oc4, od4, .func (PySem.W.fnOf "wrong_row" "wrong_row" (defArgs s_wrong_row) (defBody s_wrong_row) (defScope s_wrong_row) .none kV4 dc4 pm4 an4 cd4 ct4), sl4⟩)
    (c4 : PySem.W.codeIn K cd4 "wrong_row" = true)
    (k4 : PySem.W.keepIn K (.ref f4) = true)
    (a5 : PySem.W.nsIn K mainGlobals "parts" = some (some (.ref f5)))
    (l5 : K.lookup f5 = some ⟨oc5, od5, .func (PySem.W.fnOf "parts" "parts" (defArgs s_parts) (defBody s_parts) (defScope s_parts) .none kV5 dc5 pm5 an5 cd5 ct5), sl5⟩)
    (c5 : PySem.W.codeIn K cd5 "parts" = true)
    (k5 : PySem.W.keepIn K (.ref f5) = true)
    (a6 : PySem.W.nsIn K mainGlobals "rows_below" = some (some (.ref f6)))
    (l6 : K.lookup f6 = some ⟨oc6, od6, .func (PySem.W.fnOf "rows_below" "rows_below" (defArgs s_rows_below) (defBody s_rows_below) (defScope s_rows_below) .none kV6 dc6 pm6 an6 cd6 ct6), sl6⟩)
    (c6 : PySem.W.codeIn K cd6 "rows_below" = true)
    (k6 : PySem.W.keepIn K (.ref f6) = true)
    (a7 : PySem.W.nsIn K mainGlobals "places" = some (some (.ref f7)))
    (l7 : K.lookup f7 = some ⟨oc7, od7, .func (PySem.W.fnOf "places" "places" (defArgs s_places) (defBody s_places) (defScope s_places) .none kV7 dc7 pm7 an7 cd7 ct7), sl7⟩)
    (c7 : PySem.W.codeIn K cd7 "places" = true)
    (k7 : PySem.W.keepIn K (.ref f7) = true)
    (a8 : PySem.W.nsIn K mainGlobals "row_for" = some (some (.ref f8)))
    (l8 : K.lookup f8 = some ⟨oc8, od8, .func (PySem.W.fnOf "row_for" "row_for" (defArgs s_row_for) (defBody s_row_for) (defScope s_row_for) .none kV8 dc8 pm8 an8 cd8 ct8), sl8⟩)
    (c8 : PySem.W.codeIn K cd8 "row_for" = true)
    (k8 : PySem.W.keepIn K (.ref f8) = true)
    (a9 : PySem.W.nsIn K mainGlobals "same_word" = some (some (.ref f9)))
    (l9 : K.lookup f9 = some ⟨oc9, od9, .func (PySem.W.fnOf "same_word" "same_word" (defArgs s_same_word) (defBody s_same_word) (defScope s_same_word) .none kV9 dc9 pm9 an9 cd9 ct9), sl9⟩)
    (c9 : PySem.W.codeIn K cd9 "same_word" = true)
    (k9 : PySem.W.keepIn K (.ref f9) = true)
    (a10 : PySem.W.nsIn K mainGlobals "negative_row" = some (some (.ref f10)))
    (l10 : K.lookup f10 = some ⟨oc10, od10, .func (PySem.W.fnOf "negative_row" "negative_row" (defArgs s_negative_row) (defBody s_negative_row) (defScope s_negative_row) .none kV10 dc10 pm10 an10 cd10 ct10), sl10⟩)
    (c10 : PySem.W.codeIn K cd10 "negative_row" = true)
    (k10 : PySem.W.keepIn K (.ref f10) = true)
    (a11 : PySem.W.nsIn K mainGlobals "boxed_row" = some (some (.ref f11)))
    (l11 : K.lookup f11 = some ⟨oc11, od11, .func (PySem.W.fnOf "boxed_row" "boxed_row" (defArgs s_boxed_row) (defBody s_boxed_row) (defScope s_boxed_row) .none kV11 dc11 pm11 an11 cd11 ct11), sl11⟩)
    (c11 : PySem.W.codeIn K cd11 "boxed_row" = true)
    (k11 : PySem.W.keepIn K (.ref f11) = true)
    (a12 : PySem.W.nsIn K mainGlobals "doubled_row" = some (some (.ref f12)))
    (l12 : K.lookup f12 = some ⟨oc12, od12, .func (PySem.W.fnOf "doubled_row" "doubled_row" (defArgs s_doubled_row) (defBody s_doubled_row) (defScope s_doubled_row) .none kV12 dc12 pm12 an12 cd12 ct12), sl12⟩)
    (c12 : PySem.W.codeIn K cd12 "doubled_row" = true)
    (k12 : PySem.W.keepIn K (.ref f12) = true)
    (a13 : PySem.W.nsIn K mainGlobals "grown" = some (some (.ref f13)))
    (l13 : K.lookup f13 = some ⟨oc13, od13, .func (PySem.W.fnOf "grown" "grown" (defArgs s_grown) (defBody s_grown) (defScope s_grown) .none kV13 dc13 pm13 an13 cd13 ct13), sl13⟩)
    (c13 : PySem.W.codeIn K cd13 "grown" = true)
    (k13 : PySem.W.keepIn K (.ref f13) = true)
    (a14 : PySem.W.nsIn K mainGlobals "read_row" = some (some (.ref f14)))
    (l14 : K.lookup f14 = some ⟨oc14, od14, .func (PySem.W.fnOf "read_row" "read_row" (defArgs s_read_row) (defBody s_read_row) (defScope s_read_row) .none kV14 dc14 pm14 an14 cd14 ct14), sl14⟩)
    (c14 : PySem.W.codeIn K cd14 "read_row" = true)
    (k14 : PySem.W.keepIn K (.ref f14) = true)
    (a15 : PySem.W.nsIn K mainGlobals "negative" = some (some (.ref f15)))
    (l15 : K.lookup f15 = some ⟨oc15, od15, .func (PySem.W.fnOf "negative" "negative" (defArgs s_negative) (defBody s_negative) (defScope s_negative) .none kV15 dc15 pm15 an15 cd15 ct15), sl15⟩)
    (c15 : PySem.W.codeIn K cd15 "negative" = true)
    (k15 : PySem.W.keepIn K (.ref f15) = true)
    (a16 : PySem.W.nsIn K mainGlobals "boxed" = some (some (.ref f16)))
    (l16 : K.lookup f16 = some ⟨oc16, od16, .func (PySem.W.fnOf "boxed" "boxed" (defArgs s_boxed) (defBody s_boxed) (defScope s_boxed) .none kV16 dc16 pm16 an16 cd16 ct16), sl16⟩)
    (c16 : PySem.W.codeIn K cd16 "boxed" = true)
    (k16 : PySem.W.keepIn K (.ref f16) = true)
    (a17 : PySem.W.nsIn K mainGlobals "doubled" = some (some (.ref f17)))
    (l17 : K.lookup f17 = some ⟨oc17, od17, .func (PySem.W.fnOf "doubled" "doubled" (defArgs s_doubled) (defBody s_doubled) (defScope s_doubled) .none kV17 dc17 pm17 an17 cd17 ct17), sl17⟩)
    (c17 : PySem.W.codeIn K cd17 "doubled" = true)
    (k17 : PySem.W.keepIn K (.ref f17) = true)
    (a18 : PySem.W.nsIn K mainGlobals "_law_stream" = some (some (.ref f18)))
    (l18 : K.lookup f18 = some ⟨oc18, od18, .func (PySem.W.fnOf "_law_stream" "_law_stream" (defArgs s_law_stream) (defBody s_law_stream) (defScope s_law_stream) .none kV18 dc18 pm18 an18 cd18 ct18), sl18⟩)
    (c18 : PySem.W.codeIn K cd18 "_law_stream" = true)
    (k18 : PySem.W.keepIn K (.ref f18) = true)
    (a19 : PySem.W.nsIn K mainGlobals "_law_next" = some (some (.ref f19)))
    (l19 : K.lookup f19 = some ⟨oc19, od19, .func (PySem.W.fnOf "_law_next" "_law_next" (defArgs s_law_next) (defBody s_law_next) (defScope s_law_next) .none kV19 dc19 pm19 an19 cd19 ct19), sl19⟩)
    (c19 : PySem.W.codeIn K cd19 "_law_next" = true)
    (k19 : PySem.W.keepIn K (.ref f19) = true)
    (a20 : PySem.W.nsIn K mainGlobals "_law_pick" = some (some (.ref f20)))
    (l20 : K.lookup f20 = some ⟨oc20, od20, .func (PySem.W.fnOf "_law_pick" "_law_pick" (defArgs s_law_pick) (defBody s_law_pick) (defScope s_law_pick) .none kV20 dc20 pm20 an20 cd20 ct20), sl20⟩)
    (c20 : PySem.W.codeIn K cd20 "_law_pick" = true)
    (k20 : PySem.W.keepIn K (.ref f20) = true)
    (a21 : PySem.W.nsIn K mainGlobals "_law_from" = some (some (.ref f21)))
    (l21 : K.lookup f21 = some ⟨oc21, od21, .func (PySem.W.fnOf "_law_from" "_law_from" (defArgs s_law_from) (defBody s_law_from) (defScope s_law_from) .none kV21 dc21 pm21 an21 cd21 ct21), sl21⟩)
    (c21 : PySem.W.codeIn K cd21 "_law_from" = true)
    (k21 : PySem.W.keepIn K (.ref f21) = true)
    (a22 : PySem.W.nsIn K mainGlobals "_law_number" = some (some (.ref f22)))
    (l22 : K.lookup f22 = some ⟨oc22, od22, .func (PySem.W.fnOf "_law_number" "_law_number" (defArgs s_law_number) (defBody s_law_number) (defScope s_law_number) .none kV22 dc22 pm22 an22 cd22 ct22), sl22⟩)
    (c22 : PySem.W.codeIn K cd22 "_law_number" = true)
    (k22 : PySem.W.keepIn K (.ref f22) = true)
    (a23 : PySem.W.nsIn K mainGlobals "_law_same" = some (some (.ref f23)))
    (l23 : K.lookup f23 = some ⟨oc23, od23, .func (PySem.W.fnOf "_law_same" "_law_same" (defArgs s_law_same) (defBody s_law_same) (defScope s_law_same) .none kV23 dc23 pm23 an23 cd23 ct23), sl23⟩)
    (c23 : PySem.W.codeIn K cd23 "_law_same" = true)
    (k23 : PySem.W.keepIn K (.ref f23) = true)
    (a24 : PySem.W.nsIn K mainGlobals "_law_copy" = some (some (.ref f24)))
    (l24 : K.lookup f24 = some ⟨oc24, od24, .func (PySem.W.fnOf "_law_copy" "_law_copy" (defArgs s_law_copy) (defBody s_law_copy) (defScope s_law_copy) .none kV24 dc24 pm24 an24 cd24 ct24), sl24⟩)
    (c24 : PySem.W.codeIn K cd24 "_law_copy" = true)
    (k24 : PySem.W.keepIn K (.ref f24) = true)
    (a25 : PySem.W.nsIn K mainGlobals "_law_named" = some (some (.ref f25)))
    (l25 : K.lookup f25 = some ⟨oc25, od25, .func (PySem.W.fnOf "_law_named" "_law_named" (defArgs s_law_named) (defBody s_law_named) (defScope s_law_named) .none kV25 dc25 pm25 an25 cd25 ct25), sl25⟩)
    (c25 : PySem.W.codeIn K cd25 "_law_named" = true)
    (k25 : PySem.W.keepIn K (.ref f25) = true)
    (a26 : PySem.W.nsIn K mainGlobals "_law_book" = some (some (.ref f26)))
    (l26 : K.lookup f26 = some ⟨oc26, od26, .func (PySem.W.fnOf "_law_book" "_law_book" (defArgs s_law_book) (defBody s_law_book) (defScope s_law_book) .none kV26 dc26 pm26 an26 cd26 ct26), sl26⟩)
    (c26 : PySem.W.codeIn K cd26 "_law_book" = true)
    (k26 : PySem.W.keepIn K (.ref f26) = true)
    (a27 : PySem.W.nsIn K mainGlobals "_law_row" = some (some (.ref f27)))
    (l27 : K.lookup f27 = some ⟨oc27, od27, .func (PySem.W.fnOf "_law_row" "_law_row" (defArgs s_law_row) (defBody s_law_row) (defScope s_law_row) .none kV27 dc27 pm27 an27 cd27 ct27), sl27⟩)
    (c27 : PySem.W.codeIn K cd27 "_law_row" = true)
    (k27 : PySem.W.keepIn K (.ref f27) = true)
    (a28 : PySem.W.nsIn K mainGlobals "_law_parts" = some (some (.ref f28)))
    (l28 : K.lookup f28 = some ⟨oc28, od28, .func (PySem.W.fnOf "_law_parts" "_law_parts" (defArgs s_law_parts) (defBody s_law_parts) (defScope s_law_parts) .none kV28 dc28 pm28 an28 cd28 ct28), sl28⟩)
    (c28 : PySem.W.codeIn K cd28 "_law_parts" = true)
    (k28 : PySem.W.keepIn K (.ref f28) = true)
    (a29 : PySem.W.nsIn K mainGlobals "_law_below" = some (some (.ref f29)))
    (l29 : K.lookup f29 = some ⟨oc29, od29, .func (PySem.W.fnOf "_law_below" "_law_below" (defArgs s_law_below) (defBody s_law_below) (defScope s_law_below) .none kV29 dc29 pm29 an29 cd29 ct29), sl29⟩)
    (c29 : PySem.W.codeIn K cd29 "_law_below" = true)
    (k29 : PySem.W.keepIn K (.ref f29) = true)
    (a30 : PySem.W.nsIn K mainGlobals "_law_moved" = some (some (.ref f30)))
    (l30 : K.lookup f30 = some ⟨oc30, od30, .func (PySem.W.fnOf "_law_moved" "_law_moved" (defArgs s_law_moved) (defBody s_law_moved) (defScope s_law_moved) .none kV30 dc30 pm30 an30 cd30 ct30), sl30⟩)
    (c30 : PySem.W.codeIn K cd30 "_law_moved" = true)
    (k30 : PySem.W.keepIn K (.ref f30) = true)
    (a31 : PySem.W.nsIn K mainGlobals "_law_not" = some (some (.ref f31)))
    (l31 : K.lookup f31 = some ⟨oc31, od31, .func (PySem.W.fnOf "_law_not" "_law_not" (defArgs s_law_not) (defBody s_law_not) (defScope s_law_not) .none kV31 dc31 pm31 an31 cd31 ct31), sl31⟩)
    (c31 : PySem.W.codeIn K cd31 "_law_not" = true)
    (k31 : PySem.W.keepIn K (.ref f31) = true)
    (a32 : PySem.W.nsIn K mainGlobals "_law_leaf" = some (some (.ref f32)))
    (l32 : K.lookup f32 = some ⟨oc32, od32, .func (PySem.W.fnOf "_law_leaf" "_law_leaf" (defArgs s_law_leaf) (defBody s_law_leaf) (defScope s_law_leaf) .none kV32 dc32 pm32 an32 cd32 ct32), sl32⟩)
    (c32 : PySem.W.codeIn K cd32 "_law_leaf" = true)
    (k32 : PySem.W.keepIn K (.ref f32) = true)
    (a33 : PySem.W.nsIn K mainGlobals "_law_tree" = some (some (.ref f33)))
    (l33 : K.lookup f33 = some ⟨oc33, od33, .func (PySem.W.fnOf "_law_tree" "_law_tree" (defArgs s_law_tree) (defBody s_law_tree) (defScope s_law_tree) .none kV33 dc33 pm33 an33 cd33 ct33), sl33⟩)
    (c33 : PySem.W.codeIn K cd33 "_law_tree" = true)
    (k33 : PySem.W.keepIn K (.ref f33) = true)
    (a34 : PySem.W.nsIn K mainGlobals "_law_heap" = some (some (.ref f34)))
    (l34 : K.lookup f34 = some ⟨oc34, od34, .func (PySem.W.fnOf "_law_heap" "_law_heap" (defArgs s_law_heap) (defBody s_law_heap) (defScope s_law_heap) .none kV34 dc34 pm34 an34 cd34 ct34), sl34⟩)
    (c34 : PySem.W.codeIn K cd34 "_law_heap" = true)
    (k34 : PySem.W.keepIn K (.ref f34) = true)
    (a35 : PySem.W.nsIn K mainGlobals "_law_formula" = some (some (.ref f35)))
    (l35 : K.lookup f35 = some ⟨oc35, od35, .func (PySem.W.fnOf "_law_formula" "_law_formula" (defArgs s_law_formula) (defBody s_law_formula) (defScope s_law_formula) .none kV35 dc35 pm35 an35 cd35 ct35), sl35⟩)
    (c35 : PySem.W.codeIn K cd35 "_law_formula" = true)
    (k35 : PySem.W.keepIn K (.ref f35) = true)
    (a36 : PySem.W.nsIn K mainGlobals "_law_is_node" = some (some (.ref f36)))
    (l36 : K.lookup f36 = some ⟨oc36, od36, .func (PySem.W.fnOf "_law_is_node" "_law_is_node" (defArgs s_law_is_node) (defBody s_law_is_node) (defScope s_law_is_node) .none kV36 dc36 pm36 an36 cd36 ct36), sl36⟩)
    (c36 : PySem.W.codeIn K cd36 "_law_is_node" = true)
    (k36 : PySem.W.keepIn K (.ref f36) = true)
    (a37 : PySem.W.nsIn K mainGlobals "_law_wrong_row" = some (some (.ref f37)))
    (l37 : K.lookup f37 = some ⟨oc37, od37, .func (PySem.W.fnOf "_law_wrong_row" "_law_wrong_row" (defArgs s_law_wrong_row) (defBody s_law_wrong_row) (defScope s_law_wrong_row) .none kV37 dc37 pm37 an37 cd37 ct37), sl37⟩)
    (c37 : PySem.W.codeIn K cd37 "_law_wrong_row" = true)
    (k37 : PySem.W.keepIn K (.ref f37) = true)
    (a38 : PySem.W.nsIn K mainGlobals "_law_reading_row" = some (some (.ref f38)))
    (l38 : K.lookup f38 = some ⟨oc38, od38, .func (PySem.W.fnOf "_law_reading_row" "_law_reading_row" (defArgs s_law_reading_row) (defBody s_law_reading_row) (defScope s_law_reading_row) .none kV38 dc38 pm38 an38 cd38 ct38), sl38⟩)
    (c38 : PySem.W.codeIn K cd38 "_law_reading_row" = true)
    (k38 : PySem.W.keepIn K (.ref f38) = true)
    (a39 : PySem.W.nsIn K mainGlobals "_law_read" = some (some (.ref f39)))
    (l39 : K.lookup f39 = some ⟨oc39, od39, .func (PySem.W.fnOf "_law_read" "_law_read" (defArgs s_law_read) (defBody s_law_read) (defScope s_law_read) .none kV39 dc39 pm39 an39 cd39 ct39), sl39⟩)
    (c39 : PySem.W.codeIn K cd39 "_law_read" = true)
    (k39 : PySem.W.keepIn K (.ref f39) = true)
    (a40 : PySem.W.nsIn K mainGlobals "_law_due" = some (some (.ref f40)))
    (l40 : K.lookup f40 = some ⟨oc40, od40, .func (PySem.W.fnOf "_law_due" "_law_due" (defArgs s_law_due) (defBody s_law_due) (defScope s_law_due) .none kV40 dc40 pm40 an40 cd40 ct40), sl40⟩)
    (c40 : PySem.W.codeIn K cd40 "_law_due" = true)
    (k40 : PySem.W.keepIn K (.ref f40) = true)
    (a41 : PySem.W.nsIn K mainGlobals "_law_asked" = some (some (.ref f41)))
    (l41 : K.lookup f41 = some ⟨oc41, od41, .func (PySem.W.fnOf "_law_asked" "_law_asked" (defArgs s_law_asked) (defBody s_law_asked) (defScope s_law_asked) .none kV41 dc41 pm41 an41 cd41 ct41), sl41⟩)
    (c41 : PySem.W.codeIn K cd41 "_law_asked" = true)
    (k41 : PySem.W.keepIn K (.ref f41) = true)
    (a42 : PySem.W.nsIn K mainGlobals "_law_long" = some (some (.ref f42)))
    (l42 : K.lookup f42 = some ⟨oc42, od42, .func (PySem.W.fnOf "_law_long" "_law_long" (defArgs s_law_long) (defBody s_law_long) (defScope s_law_long) .none kV42 dc42 pm42 an42 cd42 ct42), sl42⟩)
    (c42 : PySem.W.codeIn K cd42 "_law_long" = true)
    (k42 : PySem.W.keepIn K (.ref f42) = true)
    (a43 : PySem.W.nsIn K mainGlobals "_law_sheet" = some (some (.ref f43)))
    (l43 : K.lookup f43 = some ⟨oc43, od43, .func (PySem.W.fnOf "_law_sheet" "_law_sheet" (defArgs s_law_sheet) (defBody s_law_sheet) (defScope s_law_sheet) .none kV43 dc43 pm43 an43 cd43 ct43), sl43⟩)
    (c43 : PySem.W.codeIn K cd43 "_law_sheet" = true)
    (k43 : PySem.W.keepIn K (.ref f43) = true)
    (a44 : PySem.W.nsIn K mainGlobals "_law_bent" = some (some (.ref f44)))
    (l44 : K.lookup f44 = some ⟨oc44, od44, .func (PySem.W.fnOf "_law_bent" "_law_bent" (defArgs s_law_bent) (defBody s_law_bent) (defScope s_law_bent) .none kV44 dc44 pm44 an44 cd44 ct44), sl44⟩)
    (c44 : PySem.W.codeIn K cd44 "_law_bent" = true)
    (k44 : PySem.W.keepIn K (.ref f44) = true)
    (a45 : PySem.W.nsIn K mainGlobals "law" = some (some (.ref f45)))
    (l45 : K.lookup f45 = some ⟨oc45, od45, .func (PySem.W.fnOf "law" "law" (defArgs s_law) (defBody s_law) (defScope s_law) .none kV45 dc45 pm45 an45 cd45 ct45), sl45⟩)
    (c45 : PySem.W.codeIn K cd45 "law" = true)
    (k45 : PySem.W.keepIn K (.ref f45) = true)
    (z_ValueError : PySem.W.nsIn K mainGlobals "ValueError" = some none)
    (z_abs : PySem.W.nsIn K mainGlobals "abs" = some none)
    (z_all : PySem.W.nsIn K mainGlobals "all" = some none)
    (z_bool : PySem.W.nsIn K mainGlobals "bool" = some none)
    (z_dict : PySem.W.nsIn K mainGlobals "dict" = some none)
    (z_enumerate : PySem.W.nsIn K mainGlobals "enumerate" = some none)
    (z_int : PySem.W.nsIn K mainGlobals "int" = some none)
    (z_isinstance : PySem.W.nsIn K mainGlobals "isinstance" = some none)
    (z_len : PySem.W.nsIn K mainGlobals "len" = some none)
    (z_list : PySem.W.nsIn K mainGlobals "list" = some none)
    (z_max : PySem.W.nsIn K mainGlobals "max" = some none)
    (z_min : PySem.W.nsIn K mainGlobals "min" = some none)
    (z_range : PySem.W.nsIn K mainGlobals "range" = some none)
    (z_str : PySem.W.nsIn K mainGlobals "str" = some none)
    (z_tuple : PySem.W.nsIn K mainGlobals "tuple" = some none)
    (aIt : PySem.W.nsIn K mainGlobals "ITEMS" = some (some (.ref ai)))
    (lIt : K.lookup ai = some ⟨.type "dict", none, .dict es nI, #[]⟩)
    (eIt : es.toList.map (fun e => (e.key, e.val)) = [(.str "letter" i1, .int 2 j1), (.str "no" i2, .int 1 j2), (.str "and" i3, .int 3 j3), (.str "or" i4, .int 3 j4), (.str "if" i5, .int 3 j5), (.str "box" i6, .int 2 j6)])
    (kIt : PySem.W.KeysLit w.params es.toList)
    (sIt : (ai == sysModules) = false)
    (n_LAST_LETTER : PySem.W.nsIn K mainGlobals "LAST_LETTER" = some (some (.int 7 t_LAST_LETTER)))
    (n_MOST_PAPER_ROWS : PySem.W.nsIn K mainGlobals "MOST_PAPER_ROWS" = some (some (.int 5000 t_MOST_PAPER_ROWS)))
    (n_NO : PySem.W.nsIn K mainGlobals "NO" = some (some (.ref aNO)))
    (l_NO : K.lookup aNO = some ⟨.type "tuple", odNO, .seq #[.str "no" mNO0] nNO, slNO⟩)
    (aRd : PySem.W.nsIn K mainGlobals "READERS" = some (some (.ref ar)))
    (lRd : K.lookup ar = some ⟨.type "dict", none, .dict es2 nR, #[]⟩)
    (kRd : PySem.W.KeysLit w.params es2.toList)
    (r_negative : PySem.W.nsIn K ar "negative" = some (some (.ref f10)))
    (r_boxed : PySem.W.nsIn K ar "boxed" = some (some (.ref f11)))
    (r_doubled : PySem.W.nsIn K ar "doubled" = some (some (.ref f12)))
    (aG_ : PySem.W.nsIn K mainGlobals "Growing" = some (some (.ref aG)))
    (aGinit : PySem.W.findIn K (.ref aG) "__init__" = some (some (.ref fGinit)))
    (iGinit : PySem.W.isFn K (.ref fGinit) = true)
    (lGinit : K.lookup fGinit = some ⟨ocGinit, odGinit, .func (PySem.W.fnOf "__init__" "Growing.__init__" (defArgs s_Growing_init) (defBody s_Growing_init) (defScope s_Growing_init) .none kVGinit dcGinit pmGinit anGinit cdGinit ctGinit), slGinit⟩)
    (cGinit : PySem.W.codeIn K cdGinit "Growing.__init__" = true)
    (kGinit : PySem.W.keepIn K (.ref fGinit) = true)
    (aGnode_row : PySem.W.findIn K (.ref aG) "node_row" = some (some (.ref fGnode_row)))
    (iGnode_row : PySem.W.isFn K (.ref fGnode_row) = true)
    (lGnode_row : K.lookup fGnode_row = some ⟨ocGnode_row, odGnode_row, .func (PySem.W.fnOf "node_row" "Growing.node_row" (defArgs s_Growing_node_row) (defBody s_Growing_node_row) (defScope s_Growing_node_row) .none kVGnode_row dcGnode_row pmGnode_row anGnode_row cdGnode_row ctGnode_row), slGnode_row⟩)
    (cGnode_row : PySem.W.codeIn K cdGnode_row "Growing.node_row" = true)
    (kGnode_row : PySem.W.keepIn K (.ref fGnode_row) = true)
    (aGdeny : PySem.W.findIn K (.ref aG) "deny" = some (some (.ref fGdeny)))
    (iGdeny : PySem.W.isFn K (.ref fGdeny) = true)
    (lGdeny : K.lookup fGdeny = some ⟨ocGdeny, odGdeny, .func (PySem.W.fnOf "deny" "Growing.deny" (defArgs s_Growing_deny) (defBody s_Growing_deny) (defScope s_Growing_deny) .none kVGdeny dcGdeny pmGdeny anGdeny cdGdeny ctGdeny), slGdeny⟩)
    (cGdeny : PySem.W.codeIn K cdGdeny "Growing.deny" = true)
    (kGdeny : PySem.W.keepIn K (.ref fGdeny) = true)
    (gpg : PySem.W.plainGet K aG Str.empty = true)
    (ghd : PySem.W.hasDictIn K aG = true)
    (gpo : PySem.W.plainOver K aG = true)
    (gsa : PySem.W.findIn K (.ref aG) "__setattr__" = some (some (.builtin "object.__setattr__")))
    (gmk : PySem.W.makesIn K aG = true)
    (gkc : PySem.W.keepIn K (.ref aG) = true)
    (gnS : PySem.W.findIn K (.ref aG) "sheet" = some none)
    (gnT : PySem.W.findIn K (.ref aG) "table" = some none)
    (a_BadLogic : PySem.W.nsIn K mainGlobals "BadLogic" = some (some (.ref cBadLogic)))
    (a_BadSheet : PySem.W.nsIn K mainGlobals "BadSheet" = some (some (.ref cBadSheet)))
    (a_BadClaim : PySem.W.nsIn K mainGlobals "BadClaim" = some (some (.ref cBadClaim)))
    (a_BadModel : PySem.W.nsIn K mainGlobals "BadModel" = some (some (.ref cBadModel)))
    (a_BadPaper : PySem.W.nsIn K mainGlobals "BadPaper" = some (some (.ref cBadPaper)))
    (a_BadTerm : PySem.W.nsIn K mainGlobals "BadTerm" = some (some (.ref cBadTerm)))
    (a_BadEdit : PySem.W.nsIn K mainGlobals "BadEdit" = some (some (.ref cBadEdit)))
    (a_BadValue : PySem.W.nsIn K mainGlobals "BadValue" = some (some (.ref cBadValue)))
    (a_BadText : PySem.W.nsIn K mainGlobals "BadText" = some (some (.ref cBadText)))
    (a_BadSize : PySem.W.nsIn K mainGlobals "BadSize" = some (some (.ref cBadSize)))
    (a_TooMany : PySem.W.nsIn K mainGlobals "TooMany" = some (some (.ref cTooMany)))
    (a_NotBoxed : PySem.W.nsIn K mainGlobals "NotBoxed" = some (some (.ref cNotBoxed)))
    (a_NotProved : PySem.W.nsIn K mainGlobals "NotProved" = some (some (.ref cNotProved)))
    (a_NotThere : PySem.W.nsIn K mainGlobals "NotThere" = some (some (.ref cNotThere)))
    (a_NothingToUndo : PySem.W.nsIn K mainGlobals "NothingToUndo" = some (some (.ref cNothingToUndo)))
    (a_NothingToRedo : PySem.W.nsIn K mainGlobals "NothingToRedo" = some (some (.ref cNothingToRedo)))
    (a_CourtError : PySem.W.nsIn K mainGlobals "CourtError" = some (some (.ref CE)))
    (t_BadLogic : PySem.W.typeIn K (.ref cBadLogic) = some (.type "type"))
    (h_BadLogic : PySem.W.hasDictIn K cBadLogic = true)
    (t_BadSheet : PySem.W.typeIn K (.ref cBadSheet) = some (.type "type"))
    (h_BadSheet : PySem.W.hasDictIn K cBadSheet = true)
    (t_BadClaim : PySem.W.typeIn K (.ref cBadClaim) = some (.type "type"))
    (h_BadClaim : PySem.W.hasDictIn K cBadClaim = true)
    (t_BadModel : PySem.W.typeIn K (.ref cBadModel) = some (.type "type"))
    (h_BadModel : PySem.W.hasDictIn K cBadModel = true)
    (t_BadPaper : PySem.W.typeIn K (.ref cBadPaper) = some (.type "type"))
    (h_BadPaper : PySem.W.hasDictIn K cBadPaper = true)
    (t_BadTerm : PySem.W.typeIn K (.ref cBadTerm) = some (.type "type"))
    (h_BadTerm : PySem.W.hasDictIn K cBadTerm = true)
    (t_BadEdit : PySem.W.typeIn K (.ref cBadEdit) = some (.type "type"))
    (h_BadEdit : PySem.W.hasDictIn K cBadEdit = true)
    (t_BadValue : PySem.W.typeIn K (.ref cBadValue) = some (.type "type"))
    (h_BadValue : PySem.W.hasDictIn K cBadValue = true)
    (t_BadText : PySem.W.typeIn K (.ref cBadText) = some (.type "type"))
    (h_BadText : PySem.W.hasDictIn K cBadText = true)
    (t_BadSize : PySem.W.typeIn K (.ref cBadSize) = some (.type "type"))
    (h_BadSize : PySem.W.hasDictIn K cBadSize = true)
    (t_TooMany : PySem.W.typeIn K (.ref cTooMany) = some (.type "type"))
    (h_TooMany : PySem.W.hasDictIn K cTooMany = true)
    (t_NotBoxed : PySem.W.typeIn K (.ref cNotBoxed) = some (.type "type"))
    (h_NotBoxed : PySem.W.hasDictIn K cNotBoxed = true)
    (t_NotProved : PySem.W.typeIn K (.ref cNotProved) = some (.type "type"))
    (h_NotProved : PySem.W.hasDictIn K cNotProved = true)
    (t_NotThere : PySem.W.typeIn K (.ref cNotThere) = some (.type "type"))
    (h_NotThere : PySem.W.hasDictIn K cNotThere = true)
    (t_NothingToUndo : PySem.W.typeIn K (.ref cNothingToUndo) = some (.type "type"))
    (h_NothingToUndo : PySem.W.hasDictIn K cNothingToUndo = true)
    (t_NothingToRedo : PySem.W.typeIn K (.ref cNothingToRedo) = some (.type "type"))
    (h_NothingToRedo : PySem.W.hasDictIn K cNothingToRedo = true)
    (t_CourtError : PySem.W.typeIn K (.ref CE) = some (.type "type"))
    (h_CourtError : PySem.W.hasDictIn K CE = true)
    (bC : PySem.W.subIn K (.ref CE) (.type "BaseException") = some true)
    (spc : PySem.W.specialIn K (.builtin "object.__class__") "__get__" = some (some (.builtin "getset_descriptor.__get__")))
    (tkc : PySem.W.takesIn K (.builtin "object.__class__") = some true)
    (s_BadSheet_BadLogic : PySem.W.subIn K (.ref cBadSheet) (.ref cBadLogic) = some false)
    (s_BadSheet_BadSheet : PySem.W.subIn K (.ref cBadSheet) (.ref cBadSheet) = some true)
    (s_BadSheet_BadClaim : PySem.W.subIn K (.ref cBadSheet) (.ref cBadClaim) = some false)
    (s_BadSheet_BadModel : PySem.W.subIn K (.ref cBadSheet) (.ref cBadModel) = some false)
    (s_BadSheet_BadPaper : PySem.W.subIn K (.ref cBadSheet) (.ref cBadPaper) = some false)
    (s_BadSheet_BadTerm : PySem.W.subIn K (.ref cBadSheet) (.ref cBadTerm) = some false)
    (s_BadSheet_BadEdit : PySem.W.subIn K (.ref cBadSheet) (.ref cBadEdit) = some false)
    (s_BadSheet_BadValue : PySem.W.subIn K (.ref cBadSheet) (.ref cBadValue) = some false)
    (s_BadSheet_BadText : PySem.W.subIn K (.ref cBadSheet) (.ref cBadText) = some false)
    (s_BadSheet_BadSize : PySem.W.subIn K (.ref cBadSheet) (.ref cBadSize) = some false)
    (s_BadSheet_TooMany : PySem.W.subIn K (.ref cBadSheet) (.ref cTooMany) = some false)
    (s_BadSheet_NotBoxed : PySem.W.subIn K (.ref cBadSheet) (.ref cNotBoxed) = some false)
    (s_BadSheet_NotProved : PySem.W.subIn K (.ref cBadSheet) (.ref cNotProved) = some false)
    (s_BadSheet_NotThere : PySem.W.subIn K (.ref cBadSheet) (.ref cNotThere) = some false)
    (s_BadSheet_NothingToUndo : PySem.W.subIn K (.ref cBadSheet) (.ref cNothingToUndo) = some false)
    (s_BadSheet_NothingToRedo : PySem.W.subIn K (.ref cBadSheet) (.ref cNothingToRedo) = some false)
    (s_BadSheet_CourtError : PySem.W.subIn K (.ref cBadSheet) (.ref CE) = some true)
    (vBadSheet : PySem.W.subIn K (.ref cBadSheet) (.type "ValueError") = some true)
    (bBadSheet : PySem.W.subIn K (.ref cBadSheet) (.type "BaseException") = some true)
    (gaBadSheet : PySem.W.findIn K (.ref cBadSheet) "__getattribute__" = some (some (.builtin "BaseException.__getattribute__")))
    (ggBadSheet : PySem.W.findIn K (.ref cBadSheet) "__getattr__" = some none)
    (gcBadSheet : PySem.W.findIn K (.ref cBadSheet) "__class__" = some (some (.builtin "object.__class__")))
    (moBadSheet : PySem.W.mroIn K cBadSheet (.type "object") = some true)
    (kpBadSheet : PySem.W.keepIn K (.ref cBadSheet) = true)
    (xSBadSheet : ∃ nm q N bs bm sn sub ab col dd k0 k1 k2 k3 k5, K.lookup cBadSheet = some (excClassObj nm q cBadSheet N bs bm true sn sub ab col dd k0 k1 k2 k3 k5 "ValueError.__new__") ∧ PySem.HandSPX.refsVE bm = true)
    (saBadSheet : PySem.W.findIn K (.ref cBadSheet) "__setattr__" = some (some (.builtin "object.__setattr__")))
    (noBadSheet : PySem.W.findIn K (.ref cBadSheet) "row" = some none)
    (iBadSheet : PySem.W.findIn K (.ref cBadSheet) "__init__" = some (some (.ref fEBadSheet)))
    (tIBadSheet : PySem.W.typeIn K (.ref fEBadSheet) = some (.type "function"))
    (lEBadSheet : K.lookup fEBadSheet = some ⟨ocEBadSheet, odEBadSheet, .func (PySem.W.fnOf "__init__" "BadSheet.__init__" (defArgs s_BadSheet) (defBody s_BadSheet) (defScope s_BadSheet) .none kVEBadSheet dcEBadSheet pmEBadSheet anEBadSheet cdEBadSheet ctEBadSheet), slEBadSheet⟩)
    (cEBadSheet : PySem.W.codeIn K cdEBadSheet "BadSheet.__init__" = true)
    (kEBadSheet : PySem.W.keepIn K (.ref fEBadSheet) = true)
    (s_BadValue_BadLogic : PySem.W.subIn K (.ref cBadValue) (.ref cBadLogic) = some false)
    (s_BadValue_BadSheet : PySem.W.subIn K (.ref cBadValue) (.ref cBadSheet) = some false)
    (s_BadValue_BadClaim : PySem.W.subIn K (.ref cBadValue) (.ref cBadClaim) = some false)
    (s_BadValue_BadModel : PySem.W.subIn K (.ref cBadValue) (.ref cBadModel) = some false)
    (s_BadValue_BadPaper : PySem.W.subIn K (.ref cBadValue) (.ref cBadPaper) = some false)
    (s_BadValue_BadTerm : PySem.W.subIn K (.ref cBadValue) (.ref cBadTerm) = some false)
    (s_BadValue_BadEdit : PySem.W.subIn K (.ref cBadValue) (.ref cBadEdit) = some false)
    (s_BadValue_BadValue : PySem.W.subIn K (.ref cBadValue) (.ref cBadValue) = some true)
    (s_BadValue_BadText : PySem.W.subIn K (.ref cBadValue) (.ref cBadText) = some false)
    (s_BadValue_BadSize : PySem.W.subIn K (.ref cBadValue) (.ref cBadSize) = some false)
    (s_BadValue_TooMany : PySem.W.subIn K (.ref cBadValue) (.ref cTooMany) = some false)
    (s_BadValue_NotBoxed : PySem.W.subIn K (.ref cBadValue) (.ref cNotBoxed) = some false)
    (s_BadValue_NotProved : PySem.W.subIn K (.ref cBadValue) (.ref cNotProved) = some false)
    (s_BadValue_NotThere : PySem.W.subIn K (.ref cBadValue) (.ref cNotThere) = some false)
    (s_BadValue_NothingToUndo : PySem.W.subIn K (.ref cBadValue) (.ref cNothingToUndo) = some false)
    (s_BadValue_NothingToRedo : PySem.W.subIn K (.ref cBadValue) (.ref cNothingToRedo) = some false)
    (s_BadValue_CourtError : PySem.W.subIn K (.ref cBadValue) (.ref CE) = some true)
    (vBadValue : PySem.W.subIn K (.ref cBadValue) (.type "ValueError") = some true)
    (bBadValue : PySem.W.subIn K (.ref cBadValue) (.type "BaseException") = some true)
    (gaBadValue : PySem.W.findIn K (.ref cBadValue) "__getattribute__" = some (some (.builtin "BaseException.__getattribute__")))
    (ggBadValue : PySem.W.findIn K (.ref cBadValue) "__getattr__" = some none)
    (gcBadValue : PySem.W.findIn K (.ref cBadValue) "__class__" = some (some (.builtin "object.__class__")))
    (moBadValue : PySem.W.mroIn K cBadValue (.type "object") = some true)
    (kpBadValue : PySem.W.keepIn K (.ref cBadValue) = true)
    (xSBadValue : ∃ nm q N bs bm sn sub ab col dd k0 k1 k2 k3 k5, K.lookup cBadValue = some (excClassObj nm q cBadValue N bs bm true sn sub ab col dd k0 k1 k2 k3 k5 "ValueError.__new__") ∧ PySem.HandSPX.refsVE bm = true)
    (saBadValue : PySem.W.findIn K (.ref cBadValue) "__setattr__" = some (some (.builtin "object.__setattr__")))
    (noBadValue : PySem.W.findIn K (.ref cBadValue) "name" = some none)
    (iBadValue : PySem.W.findIn K (.ref cBadValue) "__init__" = some (some (.ref fEBadValue)))
    (tIBadValue : PySem.W.typeIn K (.ref fEBadValue) = some (.type "function"))
    (lEBadValue : K.lookup fEBadValue = some ⟨ocEBadValue, odEBadValue, .func (PySem.W.fnOf "__init__" "BadValue.__init__" (defArgs s_BadValue) (defBody s_BadValue) (defScope s_BadValue) .none kVEBadValue dcEBadValue pmEBadValue anEBadValue cdEBadValue ctEBadValue), slEBadValue⟩)
    (cEBadValue : PySem.W.codeIn K cdEBadValue "BadValue.__init__" = true)
    (kEBadValue : PySem.W.keepIn K (.ref fEBadValue) = true) :
    ∃ fd : FuncData, (∀ (s : Shared) (v : Value), BindsTo s fd ⟨[v], []⟩ [("script", v)]) ∧ ∀ base : Heap, K.In base → base.Ns mainGlobals mg → FnOk P w K mg base CX0 18 fa fd ["script"] (spLaw K) := by
  have e := hfa.symm.trans (PySem.W.mg_of X G a45)
  cases e
  letI : KW := kwOf K P w
  have W : KWOk K w := ⟨fun a vs h => h, fun P2 ks => rfl⟩
  have F1 := fun_mk (st := s_is_integer) l1 c1 k1
  have B1 := F1.binds (ps := ["value"]) fun _ _ _ _ _ _ us hl => match us, hl with | [_], _ => rfl
  have F2 := fun_mk (st := s_is_between) l2 c2 k2
  have B2 := F2.binds (ps := ["value", "low", "high"]) fun _ _ _ _ _ _ us hl => match us, hl with | [_, _, _], _ => rfl
  have F3 := fun_mk (st := s_is_node) l3 c3 k3
  have B3 := F3.binds (ps := ["value", "row", "boxed"]) fun _ _ _ _ _ _ us hl => match us, hl with | [_, _, _], _ => rfl
  have F4 := fun_mk (st := s_wrong_row) l4 c4 k4
  have B4 := F4.binds (ps := ["value", "most", "boxed"]) fun _ _ _ _ _ _ us hl => match us, hl with | [_, _, _], _ => rfl
  have F5 := fun_mk (st := s_parts) l5 c5 k5
  have B5 := F5.binds (ps := ["node"]) fun _ _ _ _ _ _ us hl => match us, hl with | [_], _ => rfl
  have F6 := fun_mk (st := s_rows_below) l6 c6 k6
  have B6 := F6.binds (ps := ["sheet", "rows"]) fun _ _ _ _ _ _ us hl => match us, hl with | [_, _], _ => rfl
  have F7 := fun_mk (st := s_places) l7 c7 k7
  have B7 := F7.binds (ps := ["sheet"]) fun _ _ _ _ _ _ us hl => match us, hl with | [_], _ => rfl
  have F8 := fun_mk (st := s_row_for) l8 c8 k8
  have B8 := F8.binds (ps := ["sheet", "table", "node"]) fun _ _ _ _ _ _ us hl => match us, hl with | [_, _, _], _ => rfl
  have F9 := fun_mk (st := s_same_word) l9 c9 k9
  have B9 := F9.binds (ps := ["growing", "node", "new"]) fun _ _ _ _ _ _ us hl => match us, hl with | [_, _, _], _ => rfl
  have F10 := fun_mk (st := s_negative_row) l10 c10 k10
  have B10 := F10.binds (ps := ["growing", "row", "node", "new"]) fun _ _ _ _ _ _ us hl => match us, hl with | [_, _, _, _], _ => rfl
  have F11 := fun_mk (st := s_boxed_row) l11 c11 k11
  have B11 := F11.binds (ps := ["growing", "row", "node", "new"]) fun _ _ _ _ _ _ us hl => match us, hl with | [_, _, _, _], _ => rfl
  have F12 := fun_mk (st := s_doubled_row) l12 c12 k12
  have B12 := F12.binds (ps := ["growing", "row", "node", "new"]) fun _ _ _ _ _ _ us hl => match us, hl with | [_, _, _, _], _ => rfl
  have F13 := fun_mk (st := s_grown) l13 c13 k13
  have B13 := F13.binds (ps := ["growing", "rows", "word"]) fun _ _ _ _ _ _ us hl => match us, hl with | [_, _, _], _ => rfl
  have F14 := fun_mk (st := s_read_row) l14 c14 k14
  have B14 := F14.binds (ps := ["sheet", "row", "word", "boxes"]) fun _ _ _ _ _ _ us hl => match us, hl with | [_, _, _, _], _ => rfl
  have F15 := fun_mk (st := s_negative) l15 c15 k15
  have B15 := F15.binds (ps := ["sheet", "row"]) fun _ _ _ _ _ _ us hl => match us, hl with | [_, _], _ => rfl
  have F16 := fun_mk (st := s_boxed) l16 c16 k16
  have B16 := F16.binds (ps := ["sheet", "row"]) fun _ _ _ _ _ _ us hl => match us, hl with | [_, _], _ => rfl
  have F17 := fun_mk (st := s_doubled) l17 c17 k17
  have B17 := F17.binds (ps := ["sheet", "row"]) fun _ _ _ _ _ _ us hl => match us, hl with | [_, _], _ => rfl
  have F18 := fun_mk (st := s_law_stream) l18 c18 k18
  have B18 := F18.binds (ps := ["script"]) fun _ _ _ _ _ _ us hl => match us, hl with | [_], _ => rfl
  have F19 := fun_mk (st := s_law_next) l19 c19 k19
  have B19 := F19.binds (ps := ["stream", "many"]) fun _ _ _ _ _ _ us hl => match us, hl with | [_, _], _ => rfl
  have F20 := fun_mk (st := s_law_pick) l20 c20 k20
  have B20 := F20.binds (ps := ["stream", "rows"]) fun _ _ _ _ _ _ us hl => match us, hl with | [_, _], _ => rfl
  have F21 := fun_mk (st := s_law_from) l21 c21 k21
  have B21 := F21.binds (ps := ["stream", "low", "high"]) fun _ _ _ _ _ _ us hl => match us, hl with | [_, _, _], _ => rfl
  have F22 := fun_mk (st := s_law_number) l22 c22 k22
  have B22 := F22.binds (ps := ["value", "low", "high"]) fun _ _ _ _ _ _ us hl => match us, hl with | [_, _, _], _ => rfl
  have F23 := fun_mk (st := s_law_same) l23 c23 k23
  have B23 := F23.binds (ps := ["actual", "due"]) fun _ _ _ _ _ _ us hl => match us, hl with | [_, _], _ => rfl
  have F24 := fun_mk (st := s_law_copy) l24 c24 k24
  have B24 := F24.binds (ps := ["value"]) fun _ _ _ _ _ _ us hl => match us, hl with | [_], _ => rfl
  have F25 := fun_mk (st := s_law_named) l25 c25 k25
  have B25 := F25.binds (ps := ["error"]) fun _ _ _ _ _ _ us hl => match us, hl with | [_], _ => rfl
  have F26 := fun_mk (st := s_law_book) l26 c26 k26
  have B26 := F26.binds (ps := ["sheet"]) fun _ _ _ _ _ _ us hl => match us, hl with | [_], _ => rfl
  have F27 := fun_mk (st := s_law_row) l27 c27 k27
  have B27 := F27.binds (ps := ["book", "node"]) fun _ _ _ _ _ _ us hl => match us, hl with | [_, _], _ => rfl
  have F28 := fun_mk (st := s_law_parts) l28 c28 k28
  have B28 := F28.binds (ps := ["node"]) fun _ _ _ _ _ _ us hl => match us, hl with | [_], _ => rfl
  have F29 := fun_mk (st := s_law_below) l29 c29 k29
  have B29 := F29.binds (ps := ["sheet", "rows"]) fun _ _ _ _ _ _ us hl => match us, hl with | [_, _], _ => rfl
  have F30 := fun_mk (st := s_law_moved) l30 c30 k30
  have B30 := F30.binds (ps := ["node", "new"]) fun _ _ _ _ _ _ us hl => match us, hl with | [_, _], _ => rfl
  have F31 := fun_mk (st := s_law_not) l31 c31 k31
  have B31 := F31.binds (ps := ["book", "row"]) fun _ _ _ _ _ _ us hl => match us, hl with | [_, _], _ => rfl
  have F32 := fun_mk (st := s_law_leaf) l32 c32 k32
  have B32 := F32.binds (ps := ["stream", "book", "letters"]) fun _ _ _ _ _ _ us hl => match us, hl with | [_, _, _], _ => rfl
  have F33 := fun_mk (st := s_law_tree) l33 c33 k33
  have B33 := F33.binds (ps := ["stream", "book", "letters", "many", "modal"]) fun _ _ _ _ _ _ us hl => match us, hl with | [_, _, _, _, _], _ => rfl
  have F34 := fun_mk (st := s_law_heap) l34 c34 k34
  have B34 := F34.binds (ps := ["stream", "book", "letters", "many", "modal"]) fun _ _ _ _ _ _ us hl => match us, hl with | [_, _, _, _, _], _ => rfl
  have F35 := fun_mk (st := s_law_formula) l35 c35 k35
  have B35 := F35.binds (ps := ["stream", "book", "letters", "many", "modal"]) fun _ _ _ _ _ _ us hl => match us, hl with | [_, _, _, _, _], _ => rfl
  have F36 := fun_mk (st := s_law_is_node) l36 c36 k36
  have B36 := F36.binds (ps := ["value", "at", "modal"]) fun _ _ _ _ _ _ us hl => match us, hl with | [_, _, _], _ => rfl
  have F37 := fun_mk (st := s_law_wrong_row) l37 c37 k37
  have B37 := F37.binds (ps := ["value", "most", "modal"]) fun _ _ _ _ _ _ us hl => match us, hl with | [_, _, _], _ => rfl
  have F38 := fun_mk (st := s_law_reading_row) l38 c38 k38
  have B38 := F38.binds (ps := ["word", "book", "at", "new"]) fun _ _ _ _ _ _ us hl => match us, hl with | [_, _, _, _], _ => rfl
  have F39 := fun_mk (st := s_law_read) l39 c39 k39
  have B39 := F39.binds (ps := ["word", "book", "rows"]) fun _ _ _ _ _ _ us hl => match us, hl with | [_, _, _], _ => rfl
  have F40 := fun_mk (st := s_law_due) l40 c40 k40
  have B40 := F40.binds (ps := ["word", "sheet", "row"]) fun _ _ _ _ _ _ us hl => match us, hl with | [_, _, _], _ => rfl
  have F41 := fun_mk (st := s_law_asked) l41 c41 k41
  have B41 := F41.binds (ps := ["word", "sheet", "row"]) fun _ _ _ _ _ _ us hl => match us, hl with | [_, _, _], _ => rfl
  have F42 := fun_mk (st := s_law_long) l42 c42 k42
  have B42 := F42.binds (ps := ["stream", "many", "words"]) fun _ _ _ _ _ _ us hl => match us, hl with | [_, _, _], _ => rfl
  have F43 := fun_mk (st := s_law_sheet) l43 c43 k43
  have B43 := F43.binds (ps := ["stream", "word"]) fun _ _ _ _ _ _ us hl => match us, hl with | [_, _], _ => rfl
  have F44 := fun_mk (st := s_law_bent) l44 c44 k44
  have B44 := F44.binds (ps := ["stream", "sheet"]) fun _ _ _ _ _ _ us hl => match us, hl with | [_, _], _ => rfl
  have F45 := fun_mk (st := s_law) l45 c45 k45
  have B45 := F45.binds (ps := ["script"]) fun _ _ _ _ _ _ us hl => match us, hl with | [_], _ => rfl
  have FGinit := fun_mk (st := s_Growing_init) lGinit cGinit kGinit
  have BGinit := FGinit.binds (ps := ["self", "sheet"]) fun _ _ _ _ _ _ us hl => match us, hl with | [_, _], _ => rfl
  have FGnode_row := fun_mk (st := s_Growing_node_row) lGnode_row cGnode_row kGnode_row
  have BGnode_row := FGnode_row.binds (ps := ["self", "node"]) fun _ _ _ _ _ _ us hl => match us, hl with | [_, _], _ => rfl
  have FGdeny := fun_mk (st := s_Growing_deny) lGdeny cGdeny kGdeny
  have BGdeny := FGdeny.binds (ps := ["self", "row"]) fun _ _ _ _ _ _ us hl => match us, hl with | [_, _], _ => rfl
  have FEBadSheet := fun_mk (st := s_BadSheet) lEBadSheet cEBadSheet kEBadSheet
  have BEBadSheet := FEBadSheet.binds (ps := ["self", "row"]) fun _ _ _ _ _ _ us hl => match us, hl with | [_, _], _ => rfl
  have FEBadValue := fun_mk (st := s_BadValue) lEBadValue cEBadValue kEBadValue
  have BEBadValue := FEBadValue.binds (ps := ["self", "name"]) fun _ _ _ _ _ _ us hl => match us, hl with | [_, _], _ => rfl
  have T : Txt K mg := ⟨PySem.W.mg_none_of X G z_ValueError, PySem.W.mg_none_of X G z_abs, PySem.W.mg_none_of X G z_all, PySem.W.mg_none_of X G z_bool, PySem.W.mg_none_of X G z_dict, PySem.W.mg_none_of X G z_enumerate, PySem.W.mg_none_of X G z_int, PySem.W.mg_none_of X G z_isinstance, PySem.W.mg_none_of X G z_len, PySem.W.mg_none_of X G z_list, PySem.W.mg_none_of X G z_max, PySem.W.mg_none_of X G z_min, PySem.W.mg_none_of X G z_range, PySem.W.mg_none_of X G z_str, PySem.W.mg_none_of X G z_tuple⟩
  have C : Con K mg w := ⟨⟨ai, es, nI, PySem.W.mg_of X G aIt, ⟨lIt, kIt, sIt⟩, items_at lIt eIt⟩, ⟨_, PySem.W.mg_of X G n_LAST_LETTER⟩, ⟨_, PySem.W.mg_of X G n_MOST_PAPER_ROWS⟩, ⟨aNO, PySem.W.mg_of X G n_NO, _, _, _, l_NO, rfl, rfl, by show 1 ≤ sizeLine; decide, .cons rv_str .nil⟩⟩
  let A : All K mg w := ⟨T, C, W, ⟨_, _, F1, PySem.W.mg_of X G a1, B1⟩, ⟨_, _, F2, PySem.W.mg_of X G a2, B2⟩, ⟨_, _, F3, PySem.W.mg_of X G a3, B3⟩, ⟨_, _, F4, PySem.W.mg_of X G a4, B4⟩, ⟨_, _, F5, PySem.W.mg_of X G a5, B5⟩, ⟨_, _, F6, PySem.W.mg_of X G a6, B6⟩, ⟨_, _, F7, PySem.W.mg_of X G a7, B7⟩, ⟨_, _, F8, PySem.W.mg_of X G a8, B8⟩, ⟨_, _, F9, PySem.W.mg_of X G a9, B9⟩, ⟨_, _, F10, PySem.W.mg_of X G a10, B10⟩, ⟨_, _, F11, PySem.W.mg_of X G a11, B11⟩, ⟨_, _, F12, PySem.W.mg_of X G a12, B12⟩, ⟨_, _, F13, PySem.W.mg_of X G a13, B13⟩, ⟨_, _, F14, PySem.W.mg_of X G a14, B14⟩, ⟨_, _, F15, PySem.W.mg_of X G a15, B15⟩, ⟨_, _, F16, PySem.W.mg_of X G a16, B16⟩, ⟨_, _, F17, PySem.W.mg_of X G a17, B17⟩, ⟨_, _, F18, PySem.W.mg_of X G a18, B18⟩, ⟨_, _, F19, PySem.W.mg_of X G a19, B19⟩, ⟨_, _, F20, PySem.W.mg_of X G a20, B20⟩, ⟨_, _, F21, PySem.W.mg_of X G a21, B21⟩, ⟨_, _, F22, PySem.W.mg_of X G a22, B22⟩, ⟨_, _, F23, PySem.W.mg_of X G a23, B23⟩, ⟨_, _, F24, PySem.W.mg_of X G a24, B24⟩, ⟨_, _, F25, PySem.W.mg_of X G a25, B25⟩, ⟨_, _, F26, PySem.W.mg_of X G a26, B26⟩, ⟨_, _, F27, PySem.W.mg_of X G a27, B27⟩, ⟨_, _, F28, PySem.W.mg_of X G a28, B28⟩, ⟨_, _, F29, PySem.W.mg_of X G a29, B29⟩, ⟨_, _, F30, PySem.W.mg_of X G a30, B30⟩, ⟨_, _, F31, PySem.W.mg_of X G a31, B31⟩, ⟨_, _, F32, PySem.W.mg_of X G a32, B32⟩, ⟨_, _, F33, PySem.W.mg_of X G a33, B33⟩, ⟨_, _, F34, PySem.W.mg_of X G a34, B34⟩, ⟨_, _, F35, PySem.W.mg_of X G a35, B35⟩, ⟨_, _, F36, PySem.W.mg_of X G a36, B36⟩, ⟨_, _, F37, PySem.W.mg_of X G a37, B37⟩, ⟨_, _, F38, PySem.W.mg_of X G a38, B38⟩, ⟨_, _, F39, PySem.W.mg_of X G a39, B39⟩, ⟨_, _, F40, PySem.W.mg_of X G a40, B40⟩, ⟨_, _, F41, PySem.W.mg_of X G a41, B41⟩, ⟨_, _, F42, PySem.W.mg_of X G a42, B42⟩, ⟨_, _, F43, PySem.W.mg_of X G a43, B43⟩, ⟨_, _, F44, PySem.W.mg_of X G a44, B44⟩, ⟨_, _, F45, PySem.W.mg_of X G a45, B45⟩⟩
  have R : Rds A := ⟨ar, PySem.W.mg_of X G aRd, fun wd => by
    cases wd with
    | neg => exact ⟨es2, nR, _, lRd, kRd, r_negative, rfl⟩
    | box => exact ⟨es2, nR, _, lRd, kRd, r_boxed, rfl⟩
    | dou => exact ⟨es2, nR, _, lRd, kRd, r_doubled, rfl⟩⟩
  have Gr : Grw K mg := ⟨aG, _, _, _, _, _, _, PySem.W.mg_of X G aG_, ⟨gpg, ghd, gpo, gsa⟩, gnS, gnT, ⟨gmk, aGinit, iGinit, gkc⟩, ⟨aGnode_row, iGnode_row, kGnode_row⟩, ⟨aGdeny, iGdeny, kGdeny⟩, FGinit, FGnode_row, FGdeny, BGinit, BGnode_row, BGdeny⟩
  let Z : Exs K mg := ⟨CE, fun n => if n = "BadLogic" then cBadLogic else if n = "BadSheet" then cBadSheet else if n = "BadClaim" then cBadClaim else if n = "BadModel" then cBadModel else if n = "BadPaper" then cBadPaper else if n = "BadTerm" then cBadTerm else if n = "BadEdit" then cBadEdit else if n = "BadValue" then cBadValue else if n = "BadText" then cBadText else if n = "BadSize" then cBadSize else if n = "TooMany" then cTooMany else if n = "NotBoxed" then cNotBoxed else if n = "NotProved" then cNotProved else if n = "NotThere" then cNotThere else if n = "NothingToUndo" then cNothingToUndo else if n = "NothingToRedo" then cNothingToRedo else CE, PySem.W.mg_of X G a_CourtError, fun n hn => by
    simp only [allNames, List.mem_cons, List.not_mem_nil, or_false] at hn
    rcases hn with h | h | h | h | h | h | h | h | h | h | h | h | h | h | h | h
    · subst h; exact PySem.W.mg_of X G a_BadLogic
    · subst h; exact PySem.W.mg_of X G a_BadSheet
    · subst h; exact PySem.W.mg_of X G a_BadClaim
    · subst h; exact PySem.W.mg_of X G a_BadModel
    · subst h; exact PySem.W.mg_of X G a_BadPaper
    · subst h; exact PySem.W.mg_of X G a_BadTerm
    · subst h; exact PySem.W.mg_of X G a_BadEdit
    · subst h; exact PySem.W.mg_of X G a_BadValue
    · subst h; exact PySem.W.mg_of X G a_BadText
    · subst h; exact PySem.W.mg_of X G a_BadSize
    · subst h; exact PySem.W.mg_of X G a_TooMany
    · subst h; exact PySem.W.mg_of X G a_NotBoxed
    · subst h; exact PySem.W.mg_of X G a_NotProved
    · subst h; exact PySem.W.mg_of X G a_NotThere
    · subst h; exact PySem.W.mg_of X G a_NothingToUndo
    · subst h; exact PySem.W.mg_of X G a_NothingToRedo⟩
  have NBadSheet : NF Z "BadSheet" := by
    refine ⟨⟨gaBadSheet, ggBadSheet, bBadSheet, h_BadSheet, gcBadSheet, spc, tkc, moBadSheet⟩, fun n hn => ?_, kit_of t_CourtError h_CourtError s_BadSheet_CourtError s_BadSheet_BadSheet, kit_val vBadSheet, PySem.W.exm_ref bC h_CourtError t_CourtError s_BadSheet_CourtError⟩
    simp only [allNames, List.mem_cons, List.not_mem_nil, or_false] at hn
    rcases hn with h | h | h | h | h | h | h | h | h | h | h | h | h | h | h | h
    · subst h; exact (kit_of t_BadLogic h_BadLogic s_BadSheet_BadLogic s_BadSheet_BadSheet).trans (congrArg some (by decide +kernel))
    · subst h; exact (kit_of t_BadSheet h_BadSheet s_BadSheet_BadSheet s_BadSheet_BadSheet).trans (congrArg some (by decide +kernel))
    · subst h; exact (kit_of t_BadClaim h_BadClaim s_BadSheet_BadClaim s_BadSheet_BadSheet).trans (congrArg some (by decide +kernel))
    · subst h; exact (kit_of t_BadModel h_BadModel s_BadSheet_BadModel s_BadSheet_BadSheet).trans (congrArg some (by decide +kernel))
    · subst h; exact (kit_of t_BadPaper h_BadPaper s_BadSheet_BadPaper s_BadSheet_BadSheet).trans (congrArg some (by decide +kernel))
    · subst h; exact (kit_of t_BadTerm h_BadTerm s_BadSheet_BadTerm s_BadSheet_BadSheet).trans (congrArg some (by decide +kernel))
    · subst h; exact (kit_of t_BadEdit h_BadEdit s_BadSheet_BadEdit s_BadSheet_BadSheet).trans (congrArg some (by decide +kernel))
    · subst h; exact (kit_of t_BadValue h_BadValue s_BadSheet_BadValue s_BadSheet_BadSheet).trans (congrArg some (by decide +kernel))
    · subst h; exact (kit_of t_BadText h_BadText s_BadSheet_BadText s_BadSheet_BadSheet).trans (congrArg some (by decide +kernel))
    · subst h; exact (kit_of t_BadSize h_BadSize s_BadSheet_BadSize s_BadSheet_BadSheet).trans (congrArg some (by decide +kernel))
    · subst h; exact (kit_of t_TooMany h_TooMany s_BadSheet_TooMany s_BadSheet_BadSheet).trans (congrArg some (by decide +kernel))
    · subst h; exact (kit_of t_NotBoxed h_NotBoxed s_BadSheet_NotBoxed s_BadSheet_BadSheet).trans (congrArg some (by decide +kernel))
    · subst h; exact (kit_of t_NotProved h_NotProved s_BadSheet_NotProved s_BadSheet_BadSheet).trans (congrArg some (by decide +kernel))
    · subst h; exact (kit_of t_NotThere h_NotThere s_BadSheet_NotThere s_BadSheet_BadSheet).trans (congrArg some (by decide +kernel))
    · subst h; exact (kit_of t_NothingToUndo h_NothingToUndo s_BadSheet_NothingToUndo s_BadSheet_BadSheet).trans (congrArg some (by decide +kernel))
    · subst h; exact (kit_of t_NothingToRedo h_NothingToRedo s_BadSheet_NothingToRedo s_BadSheet_BadSheet).trans (congrArg some (by decide +kernel))
  have Z_BadSheet : Er_BadSheet Z := ⟨⟨xSBadSheet, saBadSheet, bBadSheet, t_BadSheet, kpBadSheet⟩, _, _, iBadSheet, tIBadSheet, FEBadSheet, BEBadSheet, ⟨gaBadSheet, ggBadSheet, bBadSheet, h_BadSheet⟩, noBadSheet, NBadSheet⟩
  have NBadValue : NF Z "BadValue" := by
    refine ⟨⟨gaBadValue, ggBadValue, bBadValue, h_BadValue, gcBadValue, spc, tkc, moBadValue⟩, fun n hn => ?_, kit_of t_CourtError h_CourtError s_BadValue_CourtError s_BadValue_BadValue, kit_val vBadValue, PySem.W.exm_ref bC h_CourtError t_CourtError s_BadValue_CourtError⟩
    simp only [allNames, List.mem_cons, List.not_mem_nil, or_false] at hn
    rcases hn with h | h | h | h | h | h | h | h | h | h | h | h | h | h | h | h
    · subst h; exact (kit_of t_BadLogic h_BadLogic s_BadValue_BadLogic s_BadValue_BadValue).trans (congrArg some (by decide +kernel))
    · subst h; exact (kit_of t_BadSheet h_BadSheet s_BadValue_BadSheet s_BadValue_BadValue).trans (congrArg some (by decide +kernel))
    · subst h; exact (kit_of t_BadClaim h_BadClaim s_BadValue_BadClaim s_BadValue_BadValue).trans (congrArg some (by decide +kernel))
    · subst h; exact (kit_of t_BadModel h_BadModel s_BadValue_BadModel s_BadValue_BadValue).trans (congrArg some (by decide +kernel))
    · subst h; exact (kit_of t_BadPaper h_BadPaper s_BadValue_BadPaper s_BadValue_BadValue).trans (congrArg some (by decide +kernel))
    · subst h; exact (kit_of t_BadTerm h_BadTerm s_BadValue_BadTerm s_BadValue_BadValue).trans (congrArg some (by decide +kernel))
    · subst h; exact (kit_of t_BadEdit h_BadEdit s_BadValue_BadEdit s_BadValue_BadValue).trans (congrArg some (by decide +kernel))
    · subst h; exact (kit_of t_BadValue h_BadValue s_BadValue_BadValue s_BadValue_BadValue).trans (congrArg some (by decide +kernel))
    · subst h; exact (kit_of t_BadText h_BadText s_BadValue_BadText s_BadValue_BadValue).trans (congrArg some (by decide +kernel))
    · subst h; exact (kit_of t_BadSize h_BadSize s_BadValue_BadSize s_BadValue_BadValue).trans (congrArg some (by decide +kernel))
    · subst h; exact (kit_of t_TooMany h_TooMany s_BadValue_TooMany s_BadValue_BadValue).trans (congrArg some (by decide +kernel))
    · subst h; exact (kit_of t_NotBoxed h_NotBoxed s_BadValue_NotBoxed s_BadValue_BadValue).trans (congrArg some (by decide +kernel))
    · subst h; exact (kit_of t_NotProved h_NotProved s_BadValue_NotProved s_BadValue_BadValue).trans (congrArg some (by decide +kernel))
    · subst h; exact (kit_of t_NotThere h_NotThere s_BadValue_NotThere s_BadValue_BadValue).trans (congrArg some (by decide +kernel))
    · subst h; exact (kit_of t_NothingToUndo h_NothingToUndo s_BadValue_NothingToUndo s_BadValue_BadValue).trans (congrArg some (by decide +kernel))
    · subst h; exact (kit_of t_NothingToRedo h_NothingToRedo s_BadValue_NothingToRedo s_BadValue_BadValue).trans (congrArg some (by decide +kernel))
  have Z_BadValue : Er_BadValue Z := ⟨⟨xSBadValue, saBadValue, bBadValue, t_BadValue, kpBadValue⟩, _, _, iBadValue, tIBadValue, FEBadValue, BEBadValue, ⟨gaBadValue, ggBadValue, bBadValue, h_BadValue⟩, noBadValue, NBadValue⟩
  exact ⟨A.law.fd, fun s v => .of_eq rfl, fun base _ _ => ok_law A Gr R Z Z_BadSheet Z_BadValue⟩
end K59

set_option Elab.async false
set_option linter.all false
set_option maxRecDepth 100000
open PySem PySem.W PyProof.Rows
set_option maxRecDepth 100000 in
set_option maxHeartbeats 0 in
theorem PySem.Challenge.cw_provedorshown_k59_whole_readings_of_rows_holds : PySem.Challenge.rw_provedorshown_k59_whole_readings_of_rows.Holds := by
  w_on; o_law; k_head; (case hw => w_witness2)
  k_fill
  refine L2.walk_of (l := PySem.Challenge.rw_provedorshown_k59_whole_readings_of_rows) (n := 63) (k := 18) (x := "script") (CX := fun _ => L2.CX0) (sp := fun w => K59.spLaw _) rfl (by decide) rfl ⟨rfl, by decide, by decide⟩ (fun w h Y => PySem.W.kIn_of Y) ?F (fun _ _ a ns hl _ hS => ⟨a, ns, rfl, hS, hl, fun _ => rfl⟩) (fun _ _ _ _ _ h => h)
  case F =>
    intro w mg fa h KX G hmg
    refine' K59.all_mk KX G hmg ?a1 ?l1 ?c1 ?k1 ?a2 ?l2 ?c2 ?k2 ?a3 ?l3 ?c3 ?k3 ?a4 ?l4 ?c4 ?k4 ?a5 ?l5 ?c5 ?k5 ?a6 ?l6 ?c6 ?k6 ?a7 ?l7 ?c7 ?k7 ?a8 ?l8 ?c8 ?k8 ?a9 ?l9 ?c9 ?k9 ?a10 ?l10 ?c10 ?k10 ?a11 ?l11 ?c11 ?k11 ?a12 ?l12 ?c12 ?k12 ?a13 ?l13 ?c13 ?k13 ?a14 ?l14 ?c14 ?k14 ?a15 ?l15 ?c15 ?k15 ?a16 ?l16 ?c16 ?k16 ?a17 ?l17 ?c17 ?k17 ?a18 ?l18 ?c18 ?k18 ?a19 ?l19 ?c19 ?k19 ?a20 ?l20 ?c20 ?k20 ?a21 ?l21 ?c21 ?k21 ?a22 ?l22 ?c22 ?k22 ?a23 ?l23 ?c23 ?k23 ?a24 ?l24 ?c24 ?k24 ?a25 ?l25 ?c25 ?k25 ?a26 ?l26 ?c26 ?k26 ?a27 ?l27 ?c27 ?k27 ?a28 ?l28 ?c28 ?k28 ?a29 ?l29 ?c29 ?k29 ?a30 ?l30 ?c30 ?k30 ?a31 ?l31 ?c31 ?k31 ?a32 ?l32 ?c32 ?k32 ?a33 ?l33 ?c33 ?k33 ?a34 ?l34 ?c34 ?k34 ?a35 ?l35 ?c35 ?k35 ?a36 ?l36 ?c36 ?k36 ?a37 ?l37 ?c37 ?k37 ?a38 ?l38 ?c38 ?k38 ?a39 ?l39 ?c39 ?k39 ?a40 ?l40 ?c40 ?k40 ?a41 ?l41 ?c41 ?k41 ?a42 ?l42 ?c42 ?k42 ?a43 ?l43 ?c43 ?k43 ?a44 ?l44 ?c44 ?k44 ?a45 ?l45 ?c45 ?k45 ?z_ValueError ?z_abs ?z_all ?z_bool ?z_dict ?z_enumerate ?z_int ?z_isinstance ?z_len ?z_list ?z_max ?z_min ?z_range ?z_str ?z_tuple ?aIt ?lIt ?eIt ?kIt ?sIt ?n_LAST_LETTER ?n_MOST_PAPER_ROWS ?n_NO ?l_NO ?aRd ?lRd ?kRd ?r_negative ?r_boxed ?r_doubled ?aG_ ?aGinit ?iGinit ?lGinit ?cGinit ?kGinit ?aGnode_row ?iGnode_row ?lGnode_row ?cGnode_row ?kGnode_row ?aGdeny ?iGdeny ?lGdeny ?cGdeny ?kGdeny ?gpg ?ghd ?gpo ?gsa ?gmk ?gkc ?gnS ?gnT ?a_BadLogic ?a_BadSheet ?a_BadClaim ?a_BadModel ?a_BadPaper ?a_BadTerm ?a_BadEdit ?a_BadValue ?a_BadText ?a_BadSize ?a_TooMany ?a_NotBoxed ?a_NotProved ?a_NotThere ?a_NothingToUndo ?a_NothingToRedo ?a_CourtError ?t_BadLogic ?h_BadLogic ?t_BadSheet ?h_BadSheet ?t_BadClaim ?h_BadClaim ?t_BadModel ?h_BadModel ?t_BadPaper ?h_BadPaper ?t_BadTerm ?h_BadTerm ?t_BadEdit ?h_BadEdit ?t_BadValue ?h_BadValue ?t_BadText ?h_BadText ?t_BadSize ?h_BadSize ?t_TooMany ?h_TooMany ?t_NotBoxed ?h_NotBoxed ?t_NotProved ?h_NotProved ?t_NotThere ?h_NotThere ?t_NothingToUndo ?h_NothingToUndo ?t_NothingToRedo ?h_NothingToRedo ?t_CourtError ?h_CourtError ?bC ?spc ?tkc ?s_BadSheet_BadLogic ?s_BadSheet_BadSheet ?s_BadSheet_BadClaim ?s_BadSheet_BadModel ?s_BadSheet_BadPaper ?s_BadSheet_BadTerm ?s_BadSheet_BadEdit ?s_BadSheet_BadValue ?s_BadSheet_BadText ?s_BadSheet_BadSize ?s_BadSheet_TooMany ?s_BadSheet_NotBoxed ?s_BadSheet_NotProved ?s_BadSheet_NotThere ?s_BadSheet_NothingToUndo ?s_BadSheet_NothingToRedo ?s_BadSheet_CourtError ?vBadSheet ?bBadSheet ?gaBadSheet ?ggBadSheet ?gcBadSheet ?moBadSheet ?kpBadSheet ?xSBadSheet ?saBadSheet ?noBadSheet ?iBadSheet ?tIBadSheet ?lEBadSheet ?cEBadSheet ?kEBadSheet ?s_BadValue_BadLogic ?s_BadValue_BadSheet ?s_BadValue_BadClaim ?s_BadValue_BadModel ?s_BadValue_BadPaper ?s_BadValue_BadTerm ?s_BadValue_BadEdit ?s_BadValue_BadValue ?s_BadValue_BadText ?s_BadValue_BadSize ?s_BadValue_TooMany ?s_BadValue_NotBoxed ?s_BadValue_NotProved ?s_BadValue_NotThere ?s_BadValue_NothingToUndo ?s_BadValue_NothingToRedo ?s_BadValue_CourtError ?vBadValue ?bBadValue ?gaBadValue ?ggBadValue ?gcBadValue ?moBadValue ?kpBadValue ?xSBadValue ?saBadValue ?noBadValue ?iBadValue ?tIBadValue ?lEBadValue ?cEBadValue ?kEBadValue
    (case a1 => k_is)
    (case l1 => k_is)
    (case c1 => k_is)
    (case k1 => k_is)
    (case a2 => k_is)
    (case l2 => k_is)
    (case c2 => k_is)
    (case k2 => k_is)
    (case a3 => k_is)
    (case l3 => k_is)
    (case c3 => k_is)
    (case k3 => k_is)
    (case a4 => k_is)
    (case l4 => k_is)
    (case c4 => k_is)
    (case k4 => k_is)
    (case a5 => k_is)
    (case l5 => k_is)
    (case c5 => k_is)
    (case k5 => k_is)
    (case a6 => k_is)
    (case l6 => k_is)
    (case c6 => k_is)
    (case k6 => k_is)
    (case a7 => k_is)
    (case l7 => k_is)
    (case c7 => k_is)
    (case k7 => k_is)
    (case a8 => k_is)
    (case l8 => k_is)
    (case c8 => k_is)
    (case k8 => k_is)
    (case a9 => k_is)
    (case l9 => k_is)
    (case c9 => k_is)
    (case k9 => k_is)
    (case a10 => k_is)
    (case l10 => k_is)
    (case c10 => k_is)
    (case k10 => k_is)
    (case a11 => k_is)
    (case l11 => k_is)
    (case c11 => k_is)
    (case k11 => k_is)
    (case a12 => k_is)
    (case l12 => k_is)
    (case c12 => k_is)
    (case k12 => k_is)
    (case a13 => k_is)
    (case l13 => k_is)
    (case c13 => k_is)
    (case k13 => k_is)
    (case a14 => k_is)
    (case l14 => k_is)
    (case c14 => k_is)
    (case k14 => k_is)
    (case a15 => k_is)
    (case l15 => k_is)
    (case c15 => k_is)
    (case k15 => k_is)
    (case a16 => k_is)
    (case l16 => k_is)
    (case c16 => k_is)
    (case k16 => k_is)
    (case a17 => k_is)
    (case l17 => k_is)
    (case c17 => k_is)
    (case k17 => k_is)
    (case a18 => k_is)
    (case l18 => k_is)
    (case c18 => k_is)
    (case k18 => k_is)
    (case a19 => k_is)
    (case l19 => k_is)
    (case c19 => k_is)
    (case k19 => k_is)
    (case a20 => k_is)
    (case l20 => k_is)
    (case c20 => k_is)
    (case k20 => k_is)
    (case a21 => k_is)
    (case l21 => k_is)
    (case c21 => k_is)
    (case k21 => k_is)
    (case a22 => k_is)
    (case l22 => k_is)
    (case c22 => k_is)
    (case k22 => k_is)
    (case a23 => k_is)
    (case l23 => k_is)
    (case c23 => k_is)
    (case k23 => k_is)
    (case a24 => k_is)
    (case l24 => k_is)
    (case c24 => k_is)
    (case k24 => k_is)
    (case a25 => k_is)
    (case l25 => k_is)
    (case c25 => k_is)
    (case k25 => k_is)
    (case a26 => k_is)
    (case l26 => k_is)
    (case c26 => k_is)
    (case k26 => k_is)
    (case a27 => k_is)
    (case l27 => k_is)
    (case c27 => k_is)
    (case k27 => k_is)
    (case a28 => k_is)
    (case l28 => k_is)
    (case c28 => k_is)
    (case k28 => k_is)
    (case a29 => k_is)
    (case l29 => k_is)
    (case c29 => k_is)
    (case k29 => k_is)
    (case a30 => k_is)
    (case l30 => k_is)
    (case c30 => k_is)
    (case k30 => k_is)
    (case a31 => k_is)
    (case l31 => k_is)
    (case c31 => k_is)
    (case k31 => k_is)
    (case a32 => k_is)
    (case l32 => k_is)
    (case c32 => k_is)
    (case k32 => k_is)
    (case a33 => k_is)
    (case l33 => k_is)
    (case c33 => k_is)
    (case k33 => k_is)
    (case a34 => k_is)
    (case l34 => k_is)
    (case c34 => k_is)
    (case k34 => k_is)
    (case a35 => k_is)
    (case l35 => k_is)
    (case c35 => k_is)
    (case k35 => k_is)
    (case a36 => k_is)
    (case l36 => k_is)
    (case c36 => k_is)
    (case k36 => k_is)
    (case a37 => k_is)
    (case l37 => k_is)
    (case c37 => k_is)
    (case k37 => k_is)
    (case a38 => k_is)
    (case l38 => k_is)
    (case c38 => k_is)
    (case k38 => k_is)
    (case a39 => k_is)
    (case l39 => k_is)
    (case c39 => k_is)
    (case k39 => k_is)
    (case a40 => k_is)
    (case l40 => k_is)
    (case c40 => k_is)
    (case k40 => k_is)
    (case a41 => k_is)
    (case l41 => k_is)
    (case c41 => k_is)
    (case k41 => k_is)
    (case a42 => k_is)
    (case l42 => k_is)
    (case c42 => k_is)
    (case k42 => k_is)
    (case a43 => k_is)
    (case l43 => k_is)
    (case c43 => k_is)
    (case k43 => k_is)
    (case a44 => k_is)
    (case l44 => k_is)
    (case c44 => k_is)
    (case k44 => k_is)
    (case a45 => k_is)
    (case l45 => k_is)
    (case c45 => k_is)
    (case k45 => k_is)
    (case z_ValueError => k_is)
    (case z_abs => k_is)
    (case z_all => k_is)
    (case z_bool => k_is)
    (case z_dict => k_is)
    (case z_enumerate => k_is)
    (case z_int => k_is)
    (case z_isinstance => k_is)
    (case z_len => k_is)
    (case z_list => k_is)
    (case z_max => k_is)
    (case z_min => k_is)
    (case z_range => k_is)
    (case z_str => k_is)
    (case z_tuple => k_is)
    (case aIt => k_is)
    (case lIt => k_is)
    (case eIt => rfl)
    (case kIt => k_keys)
    (case sIt => decide)
    (case n_LAST_LETTER => k_is)
    (case n_MOST_PAPER_ROWS => k_is)
    (case n_NO => k_is)
    (case l_NO => k_is)
    (case aRd => k_is)
    (case lRd => k_is)
    (case kRd => k_keys)
    (case r_negative => k_is)
    (case r_boxed => k_is)
    (case r_doubled => k_is)
    (case aG_ => k_is)
    (case aGinit => k_is)
    (case iGinit => k_is)
    (case lGinit => k_is)
    (case cGinit => k_is)
    (case kGinit => k_is)
    (case aGnode_row => k_is)
    (case iGnode_row => k_is)
    (case lGnode_row => k_is)
    (case cGnode_row => k_is)
    (case kGnode_row => k_is)
    (case aGdeny => k_is)
    (case iGdeny => k_is)
    (case lGdeny => k_is)
    (case cGdeny => k_is)
    (case kGdeny => k_is)
    (case gpg => k_is)
    (case ghd => k_is)
    (case gpo => k_is)
    (case gsa => k_is)
    (case gmk => k_is)
    (case gkc => k_is)
    (case gnS => k_is)
    (case gnT => k_is)
    (case a_BadLogic => k_is)
    (case a_BadSheet => k_is)
    (case a_BadClaim => k_is)
    (case a_BadModel => k_is)
    (case a_BadPaper => k_is)
    (case a_BadTerm => k_is)
    (case a_BadEdit => k_is)
    (case a_BadValue => k_is)
    (case a_BadText => k_is)
    (case a_BadSize => k_is)
    (case a_TooMany => k_is)
    (case a_NotBoxed => k_is)
    (case a_NotProved => k_is)
    (case a_NotThere => k_is)
    (case a_NothingToUndo => k_is)
    (case a_NothingToRedo => k_is)
    (case a_CourtError => k_is)
    (case t_BadLogic => k_is)
    (case h_BadLogic => k_is)
    (case t_BadSheet => k_is)
    (case h_BadSheet => k_is)
    (case t_BadClaim => k_is)
    (case h_BadClaim => k_is)
    (case t_BadModel => k_is)
    (case h_BadModel => k_is)
    (case t_BadPaper => k_is)
    (case h_BadPaper => k_is)
    (case t_BadTerm => k_is)
    (case h_BadTerm => k_is)
    (case t_BadEdit => k_is)
    (case h_BadEdit => k_is)
    (case t_BadValue => k_is)
    (case h_BadValue => k_is)
    (case t_BadText => k_is)
    (case h_BadText => k_is)
    (case t_BadSize => k_is)
    (case h_BadSize => k_is)
    (case t_TooMany => k_is)
    (case h_TooMany => k_is)
    (case t_NotBoxed => k_is)
    (case h_NotBoxed => k_is)
    (case t_NotProved => k_is)
    (case h_NotProved => k_is)
    (case t_NotThere => k_is)
    (case h_NotThere => k_is)
    (case t_NothingToUndo => k_is)
    (case h_NothingToUndo => k_is)
    (case t_NothingToRedo => k_is)
    (case h_NothingToRedo => k_is)
    (case t_CourtError => k_is)
    (case h_CourtError => k_is)
    (case bC => k_is)
    (case spc => k_is)
    (case tkc => k_is)
    (case s_BadSheet_BadLogic => k_is)
    (case s_BadSheet_BadSheet => k_is)
    (case s_BadSheet_BadClaim => k_is)
    (case s_BadSheet_BadModel => k_is)
    (case s_BadSheet_BadPaper => k_is)
    (case s_BadSheet_BadTerm => k_is)
    (case s_BadSheet_BadEdit => k_is)
    (case s_BadSheet_BadValue => k_is)
    (case s_BadSheet_BadText => k_is)
    (case s_BadSheet_BadSize => k_is)
    (case s_BadSheet_TooMany => k_is)
    (case s_BadSheet_NotBoxed => k_is)
    (case s_BadSheet_NotProved => k_is)
    (case s_BadSheet_NotThere => k_is)
    (case s_BadSheet_NothingToUndo => k_is)
    (case s_BadSheet_NothingToRedo => k_is)
    (case s_BadSheet_CourtError => k_is)
    (case vBadSheet => k_is)
    (case bBadSheet => k_is)
    (case gaBadSheet => k_is)
    (case ggBadSheet => k_is)
    (case gcBadSheet => k_is)
    (case moBadSheet => k_is)
    (case kpBadSheet => k_is)
    (case xSBadSheet => exact ⟨_, _, _, _, _, _, _, _, _, _, _, _, _, _, _, by k_is, by decide +kernel⟩)
    (case saBadSheet => k_is)
    (case noBadSheet => k_is)
    (case iBadSheet => k_is)
    (case tIBadSheet => k_is)
    (case lEBadSheet => k_is)
    (case cEBadSheet => k_is)
    (case kEBadSheet => k_is)
    (case s_BadValue_BadLogic => k_is)
    (case s_BadValue_BadSheet => k_is)
    (case s_BadValue_BadClaim => k_is)
    (case s_BadValue_BadModel => k_is)
    (case s_BadValue_BadPaper => k_is)
    (case s_BadValue_BadTerm => k_is)
    (case s_BadValue_BadEdit => k_is)
    (case s_BadValue_BadValue => k_is)
    (case s_BadValue_BadText => k_is)
    (case s_BadValue_BadSize => k_is)
    (case s_BadValue_TooMany => k_is)
    (case s_BadValue_NotBoxed => k_is)
    (case s_BadValue_NotProved => k_is)
    (case s_BadValue_NotThere => k_is)
    (case s_BadValue_NothingToUndo => k_is)
    (case s_BadValue_NothingToRedo => k_is)
    (case s_BadValue_CourtError => k_is)
    (case vBadValue => k_is)
    (case bBadValue => k_is)
    (case gaBadValue => k_is)
    (case ggBadValue => k_is)
    (case gcBadValue => k_is)
    (case moBadValue => k_is)
    (case kpBadValue => k_is)
    (case xSBadValue => exact ⟨_, _, _, _, _, _, _, _, _, _, _, _, _, _, _, by k_is, by decide +kernel⟩)
    (case saBadValue => k_is)
    (case noBadValue => k_is)
    (case iBadValue => k_is)
    (case tIBadValue => k_is)
    (case lEBadValue => k_is)
    (case cEBadValue => k_is)
    (case kEBadValue => k_is)

