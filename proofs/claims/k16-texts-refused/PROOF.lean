import PyProof.Rows.All
import Wide.All
import OpenK.AllK
import Wide.FinOn
import KE.KSortedM
import HandS.ForMost
import HandS.Walk
import HandS.SortInts
import HandS.SortRule
import HandS.Wide
import HandS.TupAny
import HandS.IsInst
import HandS.Style
import HandS.TupMul
import HandS.ForExc
import KE.GoesMore
import HandS.Conv
import HandS.Zip
import HandS.Defaults
import HandS.Head0
import HandS.Head1
import HandS.Head2
import HandS.HeadEnd
import HandS.HeadHook1
import HandS.HeadHook2
import KE.KStateDown
import KE.KItemsList
import KE.KDictSum
import HandS.CallLocal
import KE.KTupSum
import HandS.Rev
import HandS.RevTup
import PyProof.ListNew
import PyProof.ListRange
import HandS.Deep
import HandS.SetFor
import PyProof.SeqRoads2
import PyProof.EqKinds
import HandS.TupSets
import HandS.Dict
import HandS.Text
import KE.KIntText
import HandS.ExcInit
import KE.KExcIs
import HandS.ExcIs
import HandS.ExcField
import KE.GoesComp
import PyProof.Rows.StrMul
import PySem.Challenge.RW_rankfall_k16_texts_refused
set_option Elab.async false
set_option linter.all false
set_option maxRecDepth 100000
namespace VS
open PySem PySem.Spec PyProof.Rows L2
/-! ### data by value -/
inductive D where
  | non | bl (b : Bool) | int (i : Int) | str (s : Str) | ref (a : Addr) | tup (l : List D) | lst (l : List D) | dct (ks : List Int) (vs : List D) | fdc (ps : List (Int × Int)) | ll (a : Addr) (bs : List (Addr × List Int))
mutual
def Rep (H : Hp) : D → (Addr → Prop) → V → Prop
  | .non, _, v => v = .non
  | .bl b, _, v => v = .bl b
  | .int i, _, v => v = .int i
  | .str s, _, v => v = .str s
  | .ref a, _, v => v = .ref a
  | .tup ds, O, v => ∃ a vs, v = .ref a ∧ H a = some (.tup vs) ∧ RepAll H ds O vs
  | .lst ds, O, v => ∃ a, v = .ref a ∧ ¬ O a ∧ ∃ vs, H a = some (.lst vs) ∧ RepAll H ds (fun b => O b ∨ b = a) vs
  | .dct ks ds, O, v => ∃ a, v = .ref a ∧ ¬ O a ∧ ∃ kvs, H a = some (.dK kvs) ∧ kvs.map (·.1) = ks.map Sum.inl ∧ RepAll H ds (fun b => O b ∨ b = a) (kvs.map (·.2))
  | .fdc ps, O, v => ∃ a od, v = .ref a ∧ ¬ O a ∧ H a = some (.frz od (.dK (ps.map fun z : Int × Int => (.inl z.1, .int z.2))))
  | .ll a bs, O, v => v = .ref a ∧ ¬ O a ∧ H a = some (.lst (bs.map fun z => .ref z.1)) ∧ ∀ z ∈ bs, ¬ O z.1 ∧ z.1 ≠ a ∧ H z.1 = some (.lst (z.2.map V.int))
def RepAll (H : Hp) : List D → (Addr → Prop) → List V → Prop
  | [], _, vs => vs = []
  | d :: ds, O, vs => ∃ v r, vs = v :: r ∧ Rep H d O v ∧ RepAll H ds O r
end
def Top (H : Hp) (d : D) (O : Addr → Prop) (a : Addr) : Prop := match d with
  | .lst ds => ∃ vs, H a = some (.lst vs) ∧ RepAll H ds O vs
  | .dct ks ds => ∃ kvs, H a = some (.dK kvs) ∧ kvs.map (·.1) = ks.map Sum.inl ∧ RepAll H ds O (kvs.map (·.2))
  | _ => False
mutual
def D.flat : D → Bool
  | .tup ds => D.flats ds
  | .lst _ => false
  | .dct _ _ => false
  | .fdc _ => false
  | .ll _ _ => false
  | _ => true
def D.flats : List D → Bool
  | [] => true
  | d :: ds => d.flat && D.flats ds
end
section
variable {H H' : Hp}
mutual
theorem Rep.move : ∀ (d : D) {O O' : Addr → Prop} {v : V}, Rep H d O v → (∀ b, H b ≠ none → O' b → O b) → (∀ b o, H b = some o → ¬ O b → H' b = some o) → (∀ b vs, H b = some (.tup vs) → H' b = some (.tup vs)) → Rep H' d O' v
  | .non, _, _, _, r, _, _, _ => r
  | .bl _, _, _, _, r, _, _, _ => r
  | .int _, _, _, _, r, _, _, _ => r
  | .str _, _, _, _, r, _, _, _ => r
  | .ref _, _, _, _, r, _, _, _ => r
  | .tup ds, _, _, _, r, hO, hH, ht => by
    obtain ⟨a, vs, e, h, q⟩ := r
    exact ⟨a, vs, e, ht _ _ h, RepAll.move ds q hO hH ht⟩
  | .lst ds, O, O', _, r, hO, hH, ht => by
    obtain ⟨a, e, n, vs, h, q⟩ := r
    exact ⟨a, e, fun z => n (hO a (by rw [h]; simp) z), vs, hH _ _ h n, RepAll.move ds q (fun b hb z => z.elim (fun z => .inl (hO b hb z)) .inr) (fun b o hb z => hH b o hb fun y => z (.inl y)) ht⟩
  | .dct ks ds, O, O', _, r, hO, hH, ht => by
    obtain ⟨a, e, n, kvs, h, hk, q⟩ := r
    exact ⟨a, e, fun z => n (hO a (by rw [h]; simp) z), kvs, hH _ _ h n, hk, RepAll.move ds q (fun b hb z => z.elim (fun z => .inl (hO b hb z)) .inr) (fun b o hb z => hH b o hb fun y => z (.inl y)) ht⟩
  | .fdc ps, O, O', _, r, hO, hH, ht => by
    obtain ⟨a, od, e, n, h⟩ := r
    exact ⟨a, od, e, fun z => n (hO a (by rw [h]; simp) z), hH _ _ h n⟩
  | .ll a bs, O, O', _, r, hO, hH, ht => by
    obtain ⟨e, n, h, q⟩ := r
    exact ⟨e, fun z => n (hO a (by rw [h]; simp) z), hH _ _ h n, fun z hz => ⟨fun y => (q z hz).1 (hO _ (by rw [(q z hz).2.2]; simp) y), (q z hz).2.1, hH _ _ (q z hz).2.2 (q z hz).1⟩⟩
theorem RepAll.move : ∀ (ds : List D) {O O' : Addr → Prop} {vs : List V}, RepAll H ds O vs → (∀ b, H b ≠ none → O' b → O b) → (∀ b o, H b = some o → ¬ O b → H' b = some o) → (∀ b vs, H b = some (.tup vs) → H' b = some (.tup vs)) → RepAll H' ds O' vs
  | [], _, _, _, r, _, _, _ => r
  | d :: ds, _, _, _, r, hO, hH, ht => by
    obtain ⟨v, r', e, h, q⟩ := r
    exact ⟨v, r', e, Rep.move d h hO hH ht, RepAll.move ds q hO hH ht⟩
end
mutual
theorem Rep.flat : ∀ (d : D) {O O' : Addr → Prop} {v : V}, d.flat = true → Rep H d O v → Rep H d O' v
  | .non, _, _, _, _, r => r
  | .bl _, _, _, _, _, r => r
  | .int _, _, _, _, _, r => r
  | .str _, _, _, _, _, r => r
  | .ref _, _, _, _, _, r => r
  | .tup ds, _, _, _, f, r => by
    obtain ⟨a, vs, e, h, q⟩ := r
    exact ⟨a, vs, e, h, RepAll.flat ds f q⟩
  | .lst _, _, _, _, f, _ => by cases f
  | .dct _ _, _, _, _, f, _ => by cases f
  | .fdc _, _, _, _, f, _ => by cases f
  | .ll _ _, _, _, _, f, _ => by cases f
theorem RepAll.flat : ∀ (ds : List D) {O O' : Addr → Prop} {vs : List V}, D.flats ds = true → RepAll H ds O vs → RepAll H ds O' vs
  | [], _, _, _, _, r => r
  | d :: ds, _, _, _, f, r => by
    have f : (d.flat && D.flats ds) = true := f
    obtain ⟨f1, f2⟩ := Bool.and_eq_true_iff.mp f
    obtain ⟨v, r', e, h, q⟩ := r
    exact ⟨v, r', e, Rep.flat d f1 h, RepAll.flat ds f2 q⟩
end
theorem RepAll.length : ∀ {ds : List D} {O : Addr → Prop} {vs : List V}, RepAll H ds O vs → vs.length = ds.length
  | [], _, _, r => by cases r; rfl
  | d :: ds, _, _, r => by
    obtain ⟨v, r', rfl, h, q⟩ := r
    simp [RepAll.length q]
theorem RepAll.get : ∀ {ds : List D} {O : Addr → Prop} {vs : List V} {i : Nat} {d : D}, RepAll H ds O vs → ds[i]? = some d → ∃ v, vs[i]? = some v ∧ Rep H d O v
  | [], _, _, _, _, _, e => by simp at e
  | d :: ds, _, _, 0, _, r, e => by
    obtain ⟨v, r', rfl, h, q⟩ := r
    simp at e; subst e
    exact ⟨v, rfl, h⟩
  | d :: ds, _, _, i + 1, _, r, e => by
    obtain ⟨v, r', rfl, h, q⟩ := r
    obtain ⟨u, h1, h2⟩ := RepAll.get (i := i) q (by simpa using e)
    exact ⟨u, by simpa using h1, h2⟩
theorem RepAll.getV {ds : List D} {O : Addr → Prop} {vs : List V} {i : Nat} {v : V} (r : RepAll H ds O vs) (e : vs[i]? = some v) : ∃ d, ds[i]? = some d ∧ Rep H d O v := by
  have hi : i < ds.length := by rw [← r.length]; exact (List.getElem?_eq_some_iff.mp e).1
  obtain ⟨u, h1, h2⟩ := r.get (List.getElem?_eq_getElem hi)
  rw [e] at h1; cases h1
  exact ⟨_, List.getElem?_eq_getElem hi, h2⟩
theorem RepAll.of {O : Addr → Prop} : ∀ {ds : List D} {vs : List V}, vs.length = ds.length → (∀ (i : Nat) (d : D) (v : V), ds[i]? = some d → vs[i]? = some v → Rep H d O v) → RepAll H ds O vs
  | [], vs, e, _ => by cases vs <;> first | rfl | cases e
  | d :: ds, [], e, _ => by cases e
  | d :: ds, v :: vs, e, h => ⟨v, vs, rfl, h 0 d v rfl rfl, RepAll.of (by simpa using e) fun i d v h1 h2 => h (i + 1) d v (by simpa using h1) (by simpa using h2)⟩
theorem RepAll.append : ∀ {ds es : List D} {O : Addr → Prop} {vs us : List V}, RepAll H ds O vs → RepAll H es O us → RepAll H (ds ++ es) O (vs ++ us)
  | [], _, _, _, _, r, q => by cases r; exact q
  | d :: ds, _, _, _, _, r, q => by
    obtain ⟨v, r', rfl, h, q'⟩ := r
    exact ⟨v, _, rfl, h, RepAll.append q' q⟩
theorem RepAll.one {d : D} {O : Addr → Prop} {v : V} (h : Rep H d O v) : RepAll H [d] O [v] := ⟨v, [], rfl, h, rfl⟩
theorem RepAll.set : ∀ {ds : List D} {O : Addr → Prop} {vs : List V} {d : D} {v : V} (i : Nat), RepAll H ds O vs → Rep H d O v → RepAll H (ds.set i d) O (vs.set i v)
  | [], _, _, _, _, _, r, _ => by cases r; rfl
  | d :: ds, _, _, _, _, 0, r, h => by
    obtain ⟨v, r', rfl, _, q'⟩ := r
    exact ⟨_, _, rfl, h, q'⟩
  | d :: ds, _, _, _, _, i + 1, r, h => by
    obtain ⟨v, r', rfl, h', q'⟩ := r
    exact ⟨_, _, rfl, h', RepAll.set i q' h⟩
theorem RepAll.drop : ∀ {ds : List D} {O : Addr → Prop} {vs : List V} (n : Nat), RepAll H ds O vs → RepAll H (ds.drop n) O (vs.drop n)
  | _, _, _, 0, r => r
  | [], _, _, n + 1, r => by cases r; rfl
  | d :: ds, _, _, n + 1, r => by
    obtain ⟨v, r', rfl, h', q'⟩ := r
    exact RepAll.drop n q'
theorem RepAll.take : ∀ {ds : List D} {O : Addr → Prop} {vs : List V} (n : Nat), RepAll H ds O vs → RepAll H (ds.take n) O (vs.take n)
  | _, _, _, 0, r => rfl
  | [], _, _, n + 1, r => by cases r; rfl
  | d :: ds, _, _, n + 1, r => by
    obtain ⟨v, r', rfl, h', q'⟩ := r
    exact ⟨_, _, rfl, h', RepAll.take n q'⟩
theorem RepAll.erase : ∀ {ds : List D} {O : Addr → Prop} {vs : List V} (n : Nat), RepAll H ds O vs → RepAll H (ds.eraseIdx n) O (vs.eraseIdx n)
  | [], _, _, _, r => by cases r; rfl
  | d :: ds, _, _, 0, r => by
    obtain ⟨v, r', rfl, h', q'⟩ := r
    exact q'
  | d :: ds, _, _, n + 1, r => by
    obtain ⟨v, r', rfl, h', q'⟩ := r
    exact ⟨_, _, rfl, h', RepAll.erase n q'⟩
theorem RepAll.reverse : ∀ {ds : List D} {O : Addr → Prop} {vs : List V}, RepAll H ds O vs → RepAll H ds.reverse O vs.reverse
  | [], _, _, r => by cases r; rfl
  | d :: ds, _, _, r => by
    obtain ⟨v, r', rfl, h', q'⟩ := r
    rw [List.reverse_cons, List.reverse_cons]
    exact (RepAll.reverse q').append (.one h')
theorem RepAll.rep {ds : List D} {O : Addr → Prop} {vs : List V} (r : RepAll H ds O vs) : ∀ k : Nat, RepAll H (List.replicate k ds).flatten O (List.replicate k vs).flatten
  | 0 => rfl
  | k + 1 => by
    rw [List.replicate_succ, List.replicate_succ, List.flatten_cons, List.flatten_cons]
    exact r.append (r.rep k)
theorem RepAll.ints {O : Addr → Prop} : ∀ (ns : List Int) {vs : List V}, RepAll H (ns.map D.int) O vs → vs = ns.map V.int
  | [], _, r => r
  | n :: ns, _, r => by
    obtain ⟨v, r', rfl, h', q'⟩ := r
    cases h'
    rw [RepAll.ints ns q']; rfl
theorem RepAll.ofInts {O : Addr → Prop} : ∀ (ns : List Int), RepAll H (ns.map D.int) O (ns.map V.int)
  | [] => rfl
  | n :: ns => ⟨_, _, rfl, rfl, RepAll.ofInts ns⟩
theorem RepAll.strs {O : Addr → Prop} : ∀ (ns : List Str) {vs : List V}, RepAll H (ns.map D.str) O vs → vs = ns.map V.str
  | [], _, r => r
  | n :: ns, _, r => by
    obtain ⟨v, r', rfl, h', q'⟩ := r
    cases h'
    rw [RepAll.strs ns q']; rfl
theorem RepAll.ofStrs {O : Addr → Prop} : ∀ (ns : List Str), RepAll H (ns.map D.str) O (ns.map V.str)
  | [] => rfl
  | n :: ns => ⟨_, _, rfl, rfl, RepAll.ofStrs ns⟩
theorem Top.rep {d : D} {O : Addr → Prop} {a : Addr} (t : Top H d (fun b => O b ∨ b = a) a) (n : ¬ O a) : Rep H d O (.ref a) := by
  cases d with
  | lst ds => obtain ⟨vs, h, q⟩ := t; exact ⟨a, rfl, n, vs, h, q⟩
  | dct ks ds => obtain ⟨kvs, h, hk, q⟩ := t; exact ⟨a, rfl, n, kvs, h, hk, q⟩
  | _ => exact t.elim
theorem Top.move {d : D} {O O' : Addr → Prop} {a : Addr} (t : Top H d O a) (ha : ∀ o, H a = some o → H' a = some o) (hO : ∀ b, H b ≠ none → O' b → O b) (hH : ∀ b o, H b = some o → ¬ O b → H' b = some o) (ht : ∀ b vs, H b = some (.tup vs) → H' b = some (.tup vs)) : Top H' d O' a := by
  cases d with
  | lst ds => obtain ⟨vs, h, q⟩ := t; exact ⟨vs, ha _ h, RepAll.move ds q hO hH ht⟩
  | dct ks ds => obtain ⟨kvs, h, hk, q⟩ := t; exact ⟨kvs, ha _ h, hk, RepAll.move ds q hO hH ht⟩
  | _ => exact t.elim
theorem Top.some {d : D} {O : Addr → Prop} {a : Addr} (t : Top H d O a) : H a ≠ none := by
  cases d with
  | lst ds => obtain ⟨vs, h, q⟩ := t; rw [h]; simp
  | dct ks ds => obtain ⟨kvs, h, hk, q⟩ := t; rw [h]; simp
  | _ => exact t.elim
end

/-! ### heaps that go on -/
structure Ext (W : Addr → Prop) (H H' : Hp) : Prop where
  dom : ∀ b, H b ≠ none → H' b ≠ none
  keep : ∀ b o, H b = some o → ¬ W b → H' b = some o
  tup : ∀ b vs, H b = some (.tup vs) → H' b = some (.tup vs)
theorem Ext.refl (W : Addr → Prop) (H : Hp) : Ext W H H := ⟨fun _ h => h, fun _ _ h _ => h, fun _ _ h => h⟩
theorem Ext.trans {W : Addr → Prop} {H H1 H2 : Hp} (a : Ext W H H1) (b : Ext W H1 H2) : Ext W H H2 :=
  ⟨fun c h => b.dom c (a.dom c h), fun c o h n => b.keep c o (a.keep c o h n) n, fun c o h => b.tup c o (a.tup c o h)⟩
theorem Ext.same {W : Addr → Prop} {H H' : Hp} (a : Same H H') : Ext W H H' :=
  ⟨fun b h => by cases e : H b with | none => exact absurd e h | some o => rw [a b o e]; simp, fun b o h _ => a b o h, fun b o h => a b _ h⟩
theorem Ext.to_same {H H' : Hp} (a : Ext (fun _ => False) H H') : Same H H' := fun b o h => a.keep b o h fun z => z
theorem Ext.mono {W W' : Addr → Prop} {H H' : Hp} (a : Ext W H H') (h : ∀ b, W b → W' b) : Ext W' H H' := ⟨a.dom, fun b o e n => a.keep b o e fun z => n (h b z), a.tup⟩
theorem same_new {H : Hp} {p : Addr} {o : HO} (h : H p = none) : Same H (upd H p o) := fun b x e => by
  rw [upd_ne (ne_of_none e h)]; exact e

/-! ### the state of a def's body -/
structure Cn (ω : Type) where
  W : Addr → Prop
  wr : ω → Hp → Prop
  fr : ∀ w H H', (∀ b, W b → H' b = H b) → wr w H → wr w H'
  A0 : Addr → Prop
  H0 : Hp
  hA : ∀ b, A0 b → H0 b ≠ none
  hW : ∀ b, W b → H0 b ≠ none
  hdl : Addr
inductive Sl where
  | no | val (fr : Bool) (d : D) | own (d : D)
def Ow {ω : Type} (C : Cn ω) (Z : Addr → Prop) (Γ : List Sl) (σ : L2.St) (b : Addr) : Prop := C.W b ∨ Z b ∨ ∃ (i : Nat) (d : D), Γ[i]? = some (.own d) ∧ σ[i]? = some (some (.ref b))
structure Rel {ω : Type} (C : Cn ω) (Z : Addr → Prop) (Γ : List Sl) (w : ω) (σ : L2.St) (H : Hp) : Prop where
  len : Γ.length = σ.length
  wr : C.wr w H
  ext : Ext C.W C.H0 H
  zd : ∀ b, Z b → H b ≠ none
  zn : ∀ b, Z b → C.H0 b = none
  dist : ∀ (i j : Nat) (di dj : D) (a : Addr), Γ[i]? = some (.own di) → Γ[j]? = some (.own dj) → σ[i]? = some (some (.ref a)) → σ[j]? = some (some (.ref a)) → i = j
  val : ∀ (i : Nat) (fr : Bool) (d : D), Γ[i]? = some (.val fr d) → ∃ v, σ[i]? = some (some v) ∧ Rep H d (fun b => Ow C Z Γ σ b ∨ (fr = true ∧ C.A0 b)) v
  own : ∀ (i : Nat) (d : D), Γ[i]? = some (.own d) → ∃ a, σ[i]? = some (some (.ref a)) ∧ C.H0 a = none ∧ ¬ C.W a ∧ ¬ Z a ∧ Top H d (fun b => Ow C Z Γ σ b ∨ C.A0 b) a
section
variable {ω : Type} {C : Cn ω} {Z : Addr → Prop} {Γ : List Sl} {w w' : ω} {σ : L2.St} {H H' Hs Hs' : Hp}
theorem Rel.sub (R : Rel C Z Γ w σ H) : ∀ b, Ow C Z Γ σ b ∨ C.A0 b → H b ≠ none := by
  rintro b ((h | h | ⟨i, d, h1, h2⟩) | h)
  · exact R.ext.dom b (C.hW b h)
  · exact R.zd b h
  · obtain ⟨a, e, _, _, _, t⟩ := R.own i d h1
    rw [h2] at e; cases e
    exact t.some
  · exact R.ext.dom b (C.hA b h)
theorem Rel.step (R : Rel C Z Γ w σ H) (e : Ext C.W H H') (wr : C.wr w' H') : Rel C Z Γ w' σ H' where
  len := R.len
  wr := wr
  ext := R.ext.trans e
  zd := fun b z => e.dom b (R.zd b z)
  zn := R.zn
  dist := R.dist
  val := fun i fr d h => by
    obtain ⟨v, h1, h2⟩ := R.val i fr d h
    exact ⟨v, h1, Rep.move d h2 (fun _ _ z => z) (fun b o hb n => e.keep b o hb fun z => n (.inl (.inl z))) e.tup⟩
  own := fun i d h => by
    obtain ⟨a, h1, h2, h3, h4, h5⟩ := R.own i d h
    exact ⟨a, h1, h2, h3, h4, h5.move (fun o ho => e.keep a o ho h3) (fun _ _ z => z) (fun b o hb n => e.keep b o hb fun z => n (.inl (.inl z))) e.tup⟩
theorem Rel.wsame (R : Rel C Z Γ w σ H) (e : Same H H') : C.wr w H' := by
  refine C.fr w H H' (fun b hb => ?_) R.wr
  have := R.ext.dom b (C.hW b hb)
  cases q : H b with
  | none => exact absurd q this
  | some o => exact e b o q
theorem Rel.grow (R : Rel C Z Γ w σ H) (e : Same H H') : Rel C Z Γ w σ H' := R.step (.same e) (R.wsame e)
end

/-! ### modes -/
inductive Md where
  | F | PF | P | B
  deriving DecidableEq
instance (p : Md → Prop) [DecidablePred p] : Decidable (∀ m, p m) := decidable_of_iff (p .F ∧ p .PF ∧ p .P ∧ p .B) ⟨fun h m => by cases m <;> first | exact h.1 | exact h.2.1 | exact h.2.2.1 | exact h.2.2.2, fun h => ⟨h _, h _, h _, h _⟩⟩
def Md.fr : Md → Bool
  | .F => true | .PF => true | _ => false
def Md.ok : Md → Bool
  | .B => false | _ => true
def Md.item : Md → Md
  | .B => .PF | m => m
def Md.max : Md → Md → Md
  | .F, m => m
  | m, .F => m
  | .PF, m => m
  | m, .PF => m
  | .P, m => m
  | m, .P => m
  | .B, .B => .B
def Av {ω : Type} (C : Cn ω) (Z : Addr → Prop) (Γ : List Sl) (σ : L2.St) (Hs : Hp) : Md → Addr → Prop
  | .F => fun b => Hs b ≠ none
  | .PF => fun b => Ow C Z Γ σ b ∨ C.A0 b
  | .P => fun b => Ow C Z Γ σ b
  | .B => fun b => Ow C Z Γ σ b
def RepM {ω : Type} (C : Cn ω) (Z : Addr → Prop) (Γ : List Sl) (σ : L2.St) (Hs H : Hp) (md : Md) (d : D) (v : V) : Prop := match md with
  | .B => ∃ a, v = .ref a ∧ (∃ (i : Nat) (di : D), Γ[i]? = some (.own di) ∧ σ[i]? = some (some (.ref a))) ∧ ¬ C.W a ∧ Top H d (fun b => Ow C Z Γ σ b ∨ C.A0 b) a
  | m => Rep H d (Av C Z Γ σ Hs m) v
/-- the start heap knows the owned -/
structure Bs {ω : Type} (C : Cn ω) (Z : Addr → Prop) (Γ : List Sl) (σ : L2.St) (Hs H : Hp) : Prop where
  sub : ∀ b, Ow C Z Γ σ b ∨ C.A0 b → Hs b ≠ none
  dom : ∀ b, Hs b ≠ none → H b ≠ none
section
variable {ω : Type} {C : Cn ω} {Z : Addr → Prop} {Γ : List Sl} {w w' : ω} {σ : L2.St} {H H' Hs Hs' : Hp} {md : Md} {d : D} {v : V}
theorem Rel.bs (R : Rel C Z Γ w σ H) : Bs C Z Γ σ H H := ⟨R.sub, fun _ h => h⟩
theorem Bs.ext (b : Bs C Z Γ σ Hs H) (e : Ext C.W H H') : Bs C Z Γ σ Hs H' := ⟨b.sub, fun c h => e.dom c (b.dom c h)⟩
theorem Bs.grow (b : Bs C Z Γ σ Hs H) (e : Same H H') : Bs C Z Γ σ Hs H' := b.ext (.same e)
theorem RepM.ext (r : RepM C Z Γ σ Hs H md d v) (b : Bs C Z Γ σ Hs H) (e : Ext C.W H H') : RepM C Z Γ σ Hs H' md d v := by
  cases md with
  | F => exact Rep.move d r (fun _ _ z => z) (fun c o hc n => e.keep c o hc fun z => n (b.sub c (.inl (.inl z)))) e.tup
  | PF => exact Rep.move d r (fun _ _ z => z) (fun c o hc n => e.keep c o hc fun z => n (.inl (.inl z))) e.tup
  | P => exact Rep.move d r (fun _ _ z => z) (fun c o hc n => e.keep c o hc fun z => n (.inl z)) e.tup
  | B =>
    obtain ⟨a, h1, h2, h3, h4⟩ := r
    exact ⟨a, h1, h2, h3, h4.move (fun o ho => e.keep a o ho h3) (fun _ _ z => z) (fun c o hc n => e.keep c o hc fun z => n (.inl (.inl z))) e.tup⟩
theorem RepM.start (r : RepM C Z Γ σ Hs' H md d v) (h : ∀ b, Hs b ≠ none → Hs' b ≠ none) : RepM C Z Γ σ Hs H md d v := by
  cases md with
  | F => exact Rep.move d r (fun b _ z => h b z) (fun c o hc n => hc) fun _ _ h => h
  | PF => exact r
  | P => exact r
  | B => exact r
theorem RepM.P (r : RepM C Z Γ σ Hs H md d v) (b : Bs C Z Γ σ Hs H) (hm : md.ok = true) : Rep H d (Ow C Z Γ σ) v := by
  cases md with
  | F => exact Rep.move d r (fun c _ z => b.sub c (.inl z)) (fun c o hc n => hc) fun _ _ h => h
  | PF => exact Rep.move d r (fun c _ z => .inl z) (fun c o hc n => hc) fun _ _ h => h
  | P => exact r
  | B => cases hm
theorem RepM.PF (r : RepM C Z Γ σ Hs H md d v) (b : Bs C Z Γ σ Hs H) (hm : md.ok = true) (hf : (md.fr || d.flat) = true) : Rep H d (fun b => Ow C Z Γ σ b ∨ C.A0 b) v := by
  by_cases hd : d.flat = true
  · exact Rep.flat d hd (r.P b hm)
  · cases md with
    | F => exact Rep.move d r (fun c _ z => b.sub c z) (fun c o hc n => hc) fun _ _ h => h
    | PF => exact r
    | P => simp [Md.fr, hd] at hf
    | B => cases hm
theorem RepM.val (r : RepM C Z Γ σ Hs H md d v) (b : Bs C Z Γ σ Hs H) (hm : md.ok = true) : Rep H d (fun b => Ow C Z Γ σ b ∨ ((md.fr || d.flat) = true ∧ C.A0 b)) v := by
  cases hf : (md.fr || d.flat) with
  | true => exact Rep.move d (r.PF b hm hf) (fun c _ z => z.imp id And.right) (fun c o hc n => hc) fun _ _ h => h
  | false => exact Rep.move d (r.P b hm) (fun c _ z => z.elim id fun z => by cases z.1) (fun c o hc n => hc) fun _ _ h => h
theorem RepM.any (r : RepM C Z Γ σ Hs H md d v) (b : Bs C Z Γ σ Hs H) : Rep H d C.W v := by
  cases hm : md.ok with
  | true => exact Rep.move d (r.P b hm) (fun c _ z => .inl z) (fun c o hc n => hc) fun _ _ h => h
  | false =>
    cases md with
    | B =>
      obtain ⟨a, rfl, ⟨i, di, h1, h1'⟩, h2, h3⟩ := r
      refine Top.rep (h3.move (fun o ho => ho) (fun c _ z => ?_) (fun c o hc n => hc) fun _ _ h => h) h2
      rcases z with z | rfl
      · exact .inl (.inl z)
      · exact .inl (.inr (.inr ⟨i, di, h1, h1'⟩))
    | F => cases hm
    | PF => cases hm
    | P => cases hm
/-- of another mode -/
def Md.le : Md → Md → Bool
  | .F, m => m.ok
  | .PF, .PF => true
  | .PF, .P => true
  | .P, .P => true
  | .B, .B => true
  | _, _ => false
theorem RepM.le {m' : Md} (r : RepM C Z Γ σ Hs H md d v) (b : Bs C Z Γ σ Hs H) (hm : md.le m' = true) : RepM C Z Γ σ Hs H m' d v := by
  cases md <;> cases m' <;> first | exact r | (cases hm; done) | skip
  · exact Rep.move d r (fun c _ z => b.sub c z) (fun c o hc n => hc) fun _ _ h => h
  · exact Rep.move d r (fun c _ z => b.sub c (.inl z)) (fun c o hc n => hc) fun _ _ h => h
  · exact Rep.move d r (fun c _ z => .inl z) (fun c o hc n => hc) fun _ _ h => h
/-- flat data are of every mode -/
def nm (md : Md) (d : D) : Md := if d.flat = true then .F else md
theorem RepM.nm (r : RepM C Z Γ σ Hs H md d v) (b : Bs C Z Γ σ Hs H) : RepM C Z Γ σ Hs H (VS.nm md d) d v := by
  unfold VS.nm
  by_cases hd : d.flat = true
  · rw [if_pos hd]
    exact Rep.flat d hd (r.any b)
  · rw [if_neg hd]; exact r
theorem Md.le_max_left (a b : Md) (h : (a.max b).ok = true) : a.le (a.max b) = true := by cases a <;> cases b <;> first | rfl | cases h
theorem Md.le_max_right (a b : Md) (h : (a.max b).ok = true) : b.le (a.max b) = true := by cases a <;> cases b <;> first | rfl | cases h
theorem Md.ok_max {a b : Md} (h : (a.max b).ok = true) : a.ok = true ∧ b.ok = true := by cases a <;> cases b <;> first | exact ⟨rfl, rfl⟩ | cases h
theorem Md.ok_of_le : ∀ {a b : Md}, a.le b = true → b.ok = true → a.ok = true := by decide
theorem Md.le_trans : ∀ {a b c : Md}, a.le b = true → b.le c = true → a.le c = true := by decide
instance : Inhabited Md := ⟨.F⟩
/-- a new list -/
theorem RepM.newL {ds : List D} {vs : List V} {p : Addr} (hp : H p = none) (b : Bs C Z Γ σ Hs H) (hm : md.ok = true) (r : RepAll H ds (Av C Z Γ σ Hs md) vs) : RepM C Z Γ σ Hs (upd H p (.lst vs)) md (.lst ds) (.ref p) := by
  have hO : ¬ Av C Z Γ σ Hs md p := fun z => by
    have : H p ≠ none := by
      cases md with
      | F => exact b.dom p z
      | PF => exact b.dom p (b.sub p z)
      | P => exact b.dom p (b.sub p (.inl z))
      | B => cases hm
    exact this hp
  have q : Rep (upd H p (.lst vs)) (.lst ds) (Av C Z Γ σ Hs md) (.ref p) := ⟨p, rfl, hO, vs, upd_same, RepAll.move ds r (fun c hc z => z.elim id fun z => by subst z; exact absurd hp hc) (fun c o hc n => by rw [upd_ne (ne_of_none hc hp)]; exact hc) fun c vs' hc => by rw [upd_ne (ne_of_none hc hp)]; exact hc⟩
  cases md with
  | B => cases hm
  | _ => exact q
theorem RepM.newT {ds : List D} {vs : List V} {p : Addr} (hp : H p = none) (b : Bs C Z Γ σ Hs H) (hm : md.ok = true) (r : RepAll H ds (Av C Z Γ σ Hs md) vs) : RepM C Z Γ σ Hs (upd H p (.tup vs)) md (.tup ds) (.ref p) := by
  have q : Rep (upd H p (.tup vs)) (.tup ds) (Av C Z Γ σ Hs md) (.ref p) := ⟨p, vs, rfl, upd_same, RepAll.move ds r (fun c hc z => z) (fun c o hc n => by rw [upd_ne (ne_of_none hc hp)]; exact hc) fun c vs' hc => by rw [upd_ne (ne_of_none hc hp)]; exact hc⟩
  cases md with
  | B => cases hm
  | _ => exact q
theorem RepM.newK {ks : List Int} {ds : List D} {kvs : List (Key × V)} {p : Addr} (hp : H p = none) (b : Bs C Z Γ σ Hs H) (hm : md.ok = true) (hk : kvs.map (·.1) = ks.map Sum.inl) (r : RepAll H ds (Av C Z Γ σ Hs md) (kvs.map (·.2))) : RepM C Z Γ σ Hs (upd H p (.dK kvs)) md (.dct ks ds) (.ref p) := by
  have hO : ¬ Av C Z Γ σ Hs md p := fun z => by
    have : H p ≠ none := by
      cases md with
      | F => exact b.dom p z
      | PF => exact b.dom p (b.sub p z)
      | P => exact b.dom p (b.sub p (.inl z))
      | B => cases hm
    exact this hp
  have q : Rep (upd H p (.dK kvs)) (.dct ks ds) (Av C Z Γ σ Hs md) (.ref p) := ⟨p, rfl, hO, kvs, upd_same, hk, RepAll.move ds r (fun c hc z => z.elim id fun z => by subst z; exact absurd hp hc) (fun c o hc n => by rw [upd_ne (ne_of_none hc hp)]; exact hc) fun c vs' hc => by rw [upd_ne (ne_of_none hc hp)]; exact hc⟩
  cases md with
  | B => cases hm
  | _ => exact q
/-- values of several modes, seen by the worst -/
theorem RepM.all {m : Md} (hm : m.ok = true) (r : RepM C Z Γ σ Hs H m d v) : Rep H d (Av C Z Γ σ Hs m) v := by
  cases m with
  | B => cases hm
  | _ => exact r
theorem RepM.mk {m : Md} (hm : m.ok = true) (r : Rep H d (Av C Z Γ σ Hs m) v) : RepM C Z Γ σ Hs H m d v := by
  cases m with
  | B => cases hm
  | _ => exact r
def RepMs {ω : Type} (C : Cn ω) (Z : Addr → Prop) (Γ : List Sl) (σ : L2.St) (Hs H : Hp) : List (Md × D) → List V → Prop
  | [], vs => vs = []
  | p :: ps, vs => ∃ v r, vs = v :: r ∧ RepM C Z Γ σ Hs H p.1 p.2 v ∧ RepMs C Z Γ σ Hs H ps r
theorem RepMs.ext : ∀ {ps : List (Md × D)} {vs : List V}, RepMs C Z Γ σ Hs H ps vs → Bs C Z Γ σ Hs H → Ext C.W H H' → RepMs C Z Γ σ Hs H' ps vs
  | [], _, r, _, _ => r
  | p :: ps, _, r, b, e => by
    obtain ⟨v, r', rfl, h1, h2⟩ := r
    exact ⟨v, r', rfl, h1.ext b e, RepMs.ext h2 b e⟩
theorem RepMs.start : ∀ {ps : List (Md × D)} {vs : List V}, RepMs C Z Γ σ Hs' H ps vs → (∀ b, Hs b ≠ none → Hs' b ≠ none) → RepMs C Z Γ σ Hs H ps vs
  | [], _, r, _ => r
  | p :: ps, _, r, h => by
    obtain ⟨v, r', rfl, h1, h2⟩ := r
    exact ⟨v, r', rfl, h1.start h, RepMs.start h2 h⟩
/-- the worst mode of some data -/
def jn : List (Md × D) → Md
  | [] => .F
  | p :: ps => (nm p.1 p.2).max (jn ps)
theorem RepMs.jn : ∀ {ps : List (Md × D)} {vs : List V} {m : Md}, RepMs C Z Γ σ Hs H ps vs → Bs C Z Γ σ Hs H → (VS.jn ps).le m = true → m.ok = true → RepAll H (ps.map (·.2)) (Av C Z Γ σ Hs m) vs
  | [], _, _, r, _, _, _ => r
  | p :: ps, _, m, r, b, hl, hm => by
    obtain ⟨v, r', rfl, h1, h2⟩ := r
    have ho := Md.ok_of_le hl hm
    exact ⟨v, r', rfl, RepM.all hm ((h1.nm b).le b (Md.le_trans (Md.le_max_left _ _ ho) hl)), RepMs.jn h2 b (Md.le_trans (Md.le_max_right _ _ ho) hl) hm⟩
theorem RepMs.jn' {ps : List (Md × D)} {vs : List V} (r : RepMs C Z Γ σ Hs H ps vs) (b : Bs C Z Γ σ Hs H) (hm : (VS.jn ps).ok = true) : RepAll H (ps.map (·.2)) (Av C Z Γ σ Hs (VS.jn ps)) vs :=
  r.jn b (by cases e : VS.jn ps <;> first | rfl | (rw [e] at hm; cases hm)) hm
theorem RepMs.any : ∀ {ps : List (Md × D)} {vs : List V}, RepMs C Z Γ σ Hs H ps vs → Bs C Z Γ σ Hs H → RepAll H (ps.map (·.2)) C.W vs
  | [], _, r, _ => r
  | p :: ps, _, r, b => by
    obtain ⟨v, r', rfl, h1, h2⟩ := r
    exact ⟨v, r', rfl, h1.any b, RepMs.any h2 b⟩
end
end VS

namespace VS
open PySem PySem.Spec PyProof.Rows L2
/-! ### weaker readings -/
theorem PEimp {X : Cx} {e : Expr} {t t' : TE} (h : PE X e t) (i : ∀ σ H Q, t' σ H Q → t σ H Q) : PE X e t' := ⟨fun pins s σ H Q I q => h.run pins s σ H Q I (i _ _ _ q)⟩
theorem PTimp {X : Cx} {e : Expr} {t t' : TT} (h : PT X e t) (i : ∀ σ H Q, t' σ H Q → t σ H Q) : PT X e t' := ⟨fun pins s σ H Q I q => h.run pins s σ H Q I (i _ _ _ q)⟩
theorem PWimp {X : Cx} {e : Expr} {t t' : TT} (h : PW X e t) (i : ∀ σ H Q, t' σ H Q → t σ H Q) : PW X e t' := ⟨fun wh pins s σ H Q I q => h.run wh pins s σ H Q I (i _ _ _ q)⟩
theorem PAimp {X : Cx} {es : List Expr} {t t' : TA} (h : PA X es t) (i : ∀ σ H Q, t' σ H Q → t σ H Q) : PA X es t' := ⟨fun p pins s σ H Q I q => h.run p pins s σ H Q I (i _ _ _ q)⟩
theorem PSimp {X : Cx} {e : Stmt} {t t' : TS} (h : PS X e t) (i : ∀ D σ H, t' D σ H → t D σ H) : PS X e t' := ⟨fun pins s σ H D I q => h.run pins s σ H D I (i _ _ _ q)⟩
theorem PSsimp {X : Cx} {e : List Stmt} {t t' : TS} (h : PSs X e t) (i : ∀ D σ H, t' D σ H → t D σ H) : PSs X e t' := ⟨fun pins s σ H D I q => h.run pins s σ H D I (i _ _ _ q)⟩
theorem PIimp {X : Cx} {tg e : Expr} {t t' : TI} (h : PI X tg e t) (i : ∀ σ H Q, t' σ H Q → t σ H Q) : PI X tg e t' := ⟨fun pins s σ H Q I q => h.run pins s σ H Q I (i _ _ _ q)⟩
theorem PTsimp {X : Cx} {e : List Expr} {t t' : TT} (h : PTs X e t) (i : ∀ σ H Q, t' σ H Q → t σ H Q) : PTs X e t' := ⟨fun pins s σ H Q I q => h.run pins s σ H Q I (i _ _ _ q)⟩
theorem POimp {X : Cx} {e : Option Expr} {t t' : TO} (h : PO X e t) (i : ∀ σ H Q, t' σ H Q → t σ H Q) : PO X e t' := ⟨fun pins s σ H Q I q => h.run pins s σ H Q I (i _ _ _ q)⟩

abbrev EM {ω : Type} (C : Cn ω) := List Sl → ω → (Md → D → ω → Prop) → Prop
abbrev BM {ω : Type} (C : Cn ω) := List Sl → ω → (Bool → ω → Prop) → Prop
abbrev AM {ω : Type} (C : Cn ω) := List Sl → ω → (List (Md × D) → ω → Prop) → Prop
def lE {ω : Type} (C : Cn ω) (t : EM C) : TE := fun σ H Q => ∃ Z Γ w Q0, Rel C Z Γ w σ H ∧ t Γ w Q0 ∧ ∀ md d w' v H', Q0 md d w' → Ext C.W H H' → C.wr w' H' → RepM C Z Γ σ H H' md d v → Q v H'
def lT {ω : Type} (C : Cn ω) (t : BM C) : TT := fun σ H Q => ∃ Z Γ w Q0, Rel C Z Γ w σ H ∧ t Γ w Q0 ∧ ∀ b w' H', Q0 b w' → Ext C.W H H' → C.wr w' H' → Q b H'
def lA {ω : Type} (C : Cn ω) (t : AM C) : TA := fun σ H Q => ∃ Z Γ w Q0, Rel C Z Γ w σ H ∧ t Γ w Q0 ∧ ∀ ps w' vs H', Q0 ps w' → Ext C.W H H' → C.wr w' H' → RepMs C Z Γ σ H H' ps vs → Q vs H'
abbrev VE (X : Cx) {ω : Type} (C : Cn ω) (e : Expr) (t : EM C) : Prop := PE X e (lE C t)
abbrev VT (X : Cx) {ω : Type} (C : Cn ω) (e : Expr) (t : BM C) : Prop := PT X e (lT C t)
abbrev VW (X : Cx) {ω : Type} (C : Cn ω) (e : Expr) (t : BM C) : Prop := PW X e (lT C t)
abbrev VA (X : Cx) {ω : Type} (C : Cn ω) (es : List Expr) (t : AM C) : Prop := PA X es (lA C t)

section
variable {X : Cx} {ω : Type} {C : Cn ω} {a b c e : Expr} {es rest : List Expr} {ta tb tc te : EM C} {ts : AM C} {pos : Pos}
/-! ### names, constants -/
def nameM (i : Nat) : EM C := fun Γ w Q => match Γ[i]? with
  | some (.val fr (.ll _ bs)) => Q (if fr = true then .PF else .P) (.lst (bs.map fun z => .lst (z.2.map D.int))) w
  | some (.val fr d) => Q (if fr = true then .PF else .P) d w
  | some (.own d) => Q .B d w
  | _ => False
theorem repAll_ll {H : Hp} {O : Addr → Prop} : ∀ {bs : List (Addr × List Int)}, (∀ z ∈ bs, ¬ O z.1 ∧ H z.1 = some (.lst (z.2.map V.int))) → RepAll H (bs.map fun z => .lst (z.2.map D.int)) O (bs.map fun z => .ref z.1)
  | [], _ => rfl
  | z :: bs, h => ⟨_, _, rfl, ⟨z.1, rfl, (h z (by simp)).1, _, (h z (by simp)).2, RepAll.ofInts _⟩, repAll_ll fun y hy => h y (List.mem_cons_of_mem _ hy)⟩
theorem Rep.peel {H : Hp} {O : Addr → Prop} {a : Addr} {bs : List (Addr × List Int)} {v : V} (r : Rep H (.ll a bs) O v) : Rep H (.lst (bs.map fun z => .lst (z.2.map D.int))) O v := by
  obtain ⟨rfl, h1, h2, h3⟩ := r
  exact ⟨a, rfl, h1, _, h2, repAll_ll fun z hz => ⟨fun y => y.elim (h3 z hz).1 (h3 z hz).2.1, (h3 z hz).2.2⟩⟩
theorem vn {i : Nat} (h : PE X e (tVar i)) : VE X C e (nameM i) := PEimp h fun σ H Q ⟨Z, Γ, w, Q0, R, ht, hq⟩ => by
  unfold nameM at ht
  split at ht
  · rename_i fr a bs hΓ
    obtain ⟨v, hv, r⟩ := R.val i fr _ hΓ
    refine ⟨v, hv, hq _ _ _ _ _ ht (.refl _ _) R.wr ?_⟩
    cases fr with
    | true => exact Rep.peel (Rep.move _ r (fun b _ z => z.imp id fun z => ⟨rfl, z⟩) (fun _ _ h _ => h) fun _ _ h => h)
    | false => exact Rep.peel (Rep.move _ r (fun b _ z => .inl z) (fun _ _ h _ => h) fun _ _ h => h)
  · rename_i fr d _ hΓ
    obtain ⟨v, hv, r⟩ := R.val i fr d hΓ
    refine ⟨v, hv, hq _ _ _ _ _ ht (.refl _ _) R.wr ?_⟩
    cases fr with
    | true => exact Rep.move d r (fun b _ z => z.imp id fun z => ⟨rfl, z⟩) (fun _ _ h _ => h) fun _ _ h => h
    | false => exact Rep.move d r (fun b _ z => .inl z) (fun _ _ h _ => h) fun _ _ h => h
  · rename_i d hΓ
    obtain ⟨a, ha, h1, h2, h3, t⟩ := R.own i d hΓ
    exact ⟨_, ha, hq _ _ _ _ _ ht (.refl _ _) R.wr ⟨a, rfl, ⟨i, d, hΓ, ha⟩, h2, t⟩⟩
  · exact ht.elim
def constM (d : D) : EM C := fun _ w Q => Q .F d w
theorem RepM.flat {ω : Type} {C : Cn ω} {Z : Addr → Prop} {Γ : List Sl} {σ : L2.St} {Hs H : Hp} {d : D} {v : V} (r : Rep H d (fun b => Hs b ≠ none) v) : RepM C Z Γ σ Hs H .F d v := r
theorem vc {d : D} {v : V} (h : PE X e (tC v)) (hr : ∀ H O, Rep H d O v) : VE X C e (constM d) := PEimp h fun σ H Q ⟨Z, Γ, w, Q0, R, ht, hq⟩ => hq _ _ _ _ _ ht (.refl _ _) R.wr (RepM.flat (hr _ _))
theorem vci {i : Int} (h : PE X e (tC (.int i))) : VE X C e (constM (.int i)) := vc h fun _ _ => rfl
theorem vcs {i : Str} (h : PE X e (tC (.str i))) : VE X C e (constM (.str i)) := vc h fun _ _ => rfl
theorem vcb {i : Bool} (h : PE X e (tC (.bl i))) : VE X C e (constM (.bl i)) := vc h fun _ _ => rfl
theorem vcn (h : PE X e (tC .non)) : VE X C e (constM .non) := vc h fun _ _ => rfl
theorem vcr {i : Addr} (h : PE X e (tC (.ref i))) : VE X C e (constM (.ref i)) := vc h fun _ _ => rfl
/-! ### arguments, displays -/
def nilA : AM C := fun _ w Q => Q [] w
def consA (te : EM C) (ts : AM C) : AM C := fun Γ w Q => te Γ w fun md d w1 => ts Γ w1 fun ps w2 => Q ((md, d) :: ps) w2
theorem va0 : VA X C [] nilA := PAimp pa_nil fun σ H Q ⟨Z, Γ, w, Q0, R, ht, hq⟩ => hq _ _ _ _ ht (.refl _ _) R.wr rfl
theorem va (he : VE X C e te) (hs : VA X C es ts) (hst : starEach (e :: es) X.env = (false, eval e X.env) :: starEach es X.env := by rfl) : VA X C (e :: es) (consA te ts) :=
  PAimp (pa_cons he hs hst) fun σ H Q ⟨Z, Γ, w, Q0, R, ht, hq⟩ => ⟨Z, Γ, w, _, R, ht, fun md d w1 v H1 h1 e1 wr1 r1 => ⟨Z, Γ, w1, _, R.step e1 wr1, h1, fun ps w2 vs H2 h2 e2 wr2 rs =>
    hq _ _ _ _ h2 (e1.trans e2) wr2 ⟨v, vs, rfl, r1.ext (R.bs.ext e1) e2, rs.start e1.dom⟩⟩⟩
def tupM (ts : AM C) : EM C := fun Γ w Q => ts Γ w fun ps w1 => ps.length ≤ 1000 ∧ (jn ps).ok = true ∧ Q (jn ps) (.tup (ps.map (·.2))) w1
def lstM (ts : AM C) : EM C := fun Γ w Q => ts Γ w fun ps w1 => ps.length ≤ 1000 ∧ (jn ps).ok = true ∧ Q (jn ps) (.lst (ps.map (·.2))) w1
theorem RepMs.length {Z : Addr → Prop} {Γ : List Sl} {σ : L2.St} {Hs H : Hp} : ∀ {ps : List (Md × D)} {vs : List V}, RepMs C Z Γ σ Hs H ps vs → vs.length = ps.length
  | [], _, r => by cases r; rfl
  | p :: ps, _, r => by
    obtain ⟨v, r', rfl, h1, h2⟩ := r
    simp [RepMs.length h2]
theorem le1000 {n : Nat} (h : n ≤ 1000) : n ≤ sizeLine := Nat.le_of_lt (small1000 h)
theorem vtup {x1} (h : VA X C es ts) : VE X C (.Tuple es x1 pos) (tupM ts) := PEimp (pe_tup h) fun σ H Q ⟨Z, Γ, w, Q0, R, ht, hq⟩ => ⟨Z, Γ, w, _, R, ht, fun ps w1 vs H1 h1 e1 wr1 rs =>
  ⟨by rw [rs.length]; exact le1000 h1.1, fun p hp => hq _ _ _ _ _ h1.2.2 (e1.trans (.same (same_new hp))) ((R.step e1 wr1).wsame (same_new hp)) (RepM.newT hp (R.bs.ext e1) h1.2.1 (rs.jn' (R.bs.ext e1) h1.2.1))⟩⟩
theorem vlst (h : VA X C es ts) : VE X C (.List es pos) (lstM ts) := PEimp (pe_lst h) fun σ H Q ⟨Z, Γ, w, Q0, R, ht, hq⟩ => ⟨Z, Γ, w, _, R, ht, fun ps w1 vs H1 h1 e1 wr1 rs =>
  ⟨by rw [rs.length]; exact le1000 h1.1, fun p hp => hq _ _ _ _ _ h1.2.2 (e1.trans (.same (same_new hp))) ((R.step e1 wr1).wsame (same_new hp)) (RepM.newL hp (R.bs.ext e1) h1.2.1 (rs.jn' (R.bs.ext e1) h1.2.1))⟩⟩
def dnewM : EM C := fun _ w Q => Q .F (.dct [] []) w
theorem vdnew : VE X C (.Dict [] [] pos) dnewM := PEimp pe_dnewK fun σ H Q ⟨Z, Γ, w, Q0, R, ht, hq⟩ => fun p hp =>
  hq _ _ _ _ _ ht (.same (same_new hp)) (R.wsame (same_new hp)) (RepM.newK hp R.bs (md := .F) rfl rfl rfl)
/-! ### operators -/
abbrev F2 := Md × D → Md × D → (Md → D → Prop) → Prop
def Snd2 {ω : Type} (C : Cn ω) (r : R2) (f : F2) : Prop := ∀ {Z : Addr → Prop} {Γ : List Sl} {w : ω} {σ : L2.St} {Hs H : Hp} {x y : V} {p q : Md × D} {K : Md → D → Prop} {Q : VK}, Rel C Z Γ w σ H → Bs C Z Γ σ Hs H →
  RepM C Z Γ σ Hs H p.1 p.2 x → RepM C Z Γ σ Hs H q.1 q.2 y → f p q K → (∀ md d v H', K md d → Same H H' → RepM C Z Γ σ Hs H' md d v → Q v H') → r x y H Q
def binM (f : F2) (ta tb : EM C) : EM C := fun Γ w Q => ta Γ w fun m1 d1 w1 => tb Γ w1 fun m2 d2 w2 => f (m1, d1) (m2, d2) fun md d => Q md d w2
theorem bin_snd {r : R2} {f : F2} (s : Snd2 C r f) {σ : L2.St} {H : Hp} {Q : VK} (h : lE C (binM f ta tb) σ H Q) : tOp r (lE C ta) (lE C tb) σ H Q := by
  obtain ⟨Z, Γ, w, Q0, R, ht, hq⟩ := h
  exact ⟨Z, Γ, w, _, R, ht, fun m1 d1 w1 v1 H1 h1 e1 wr1 r1 => ⟨Z, Γ, w1, _, R.step e1 wr1, h1, fun m2 d2 w2 v2 H2 h2 e2 wr2 r2 =>
    s ((R.step e1 wr1).step e2 wr2) (R.bs.ext (e1.trans e2)) (r1.ext (R.bs.ext e1) e2) (r2.start e1.dom) h2 fun md d v H3 k g rr => hq _ _ _ _ _ k ((e1.trans e2).trans (.same g)) (((R.step e1 wr1).step e2 wr2).wsame g) rr⟩⟩
theorem vop {op : Operator} {r : R2} {f : F2} (ho : OpR X (binaryOp op) r) (s : Snd2 C r f) (ha : VE X C a ta) (hb : VE X C b tb) : VE X C (.BinOp a op b pos) (binM f ta tb) := PEimp (pe_op ho ha hb) fun _ _ _ h => bin_snd s h
theorem vcmp {op : CmpOp} {r : R2} {f : F2} (ho : OpR X (compareOp op) r) (s : Snd2 C r f) (hm : behindInMarks op b = false) (ha : VE X C a ta) (hb : VE X C b tb) : VE X C (.Compare a [op] [b] pos) (binM f ta tb) := PEimp (pe_cmpR ho ha hb hm) fun _ _ _ h => bin_snd s h
theorem vix {r : R2} {f : F2} (hr : IxR X r) (s : Snd2 C r f) (hs : PlainIx b) (ha : VE X C a ta) (hb : VE X C b tb) : VE X C (.Subscript a b pos) (binM f ta tb) := PEimp (pe_ix hr ha hb hs) fun _ _ _ h => bin_snd s h
/-- a test of a value -/
def testM (t : EM C) : BM C := fun Γ w Q => t Γ w fun _ d w1 => ∃ k, d = .bl k ∧ Q k w1
theorem test_snd {t : TE} {te : EM C} {σ : L2.St} {H : Hp} {Q : Bool → Hp → Prop} (h : lT C (testM te) σ H Q) : (lE C te) σ H fun x H' => ∃ k, x = .bl k ∧ Q k H' := by
  obtain ⟨Z, Γ, w, Q0, R, ht, hq⟩ := h
  refine ⟨Z, Γ, w, _, R, ht, fun md d w1 v H1 h1 e1 wr1 r1 => ?_⟩
  obtain ⟨k, rfl, h1⟩ := h1
  have e : v = .bl k := r1.any (R.bs.ext e1)
  exact ⟨k, e, hq _ _ _ h1 e1 wr1⟩
theorem vt_cmp {op : CmpOp} {r : R2} {f : F2} (ho : OpR X (compareOp op) r) (s : Snd2 C r f) (hm : behindInMarks op b = false) (ha : VE X C a ta) (hb : VE X C b tb) : VT X C (.Compare a [op] [b] pos) (testM (binM f ta tb)) :=
  PTimp (pt_cmpR ho ha hb hm) fun σ H Q h => bin_snd s (test_snd (t := tOp r (lE C ta) (lE C tb)) h)
theorem vt_val (h : VE X C e te) (he : ∀ whole, isTrue e X.env whole = (do let v ← whole; standAt e.pos; holding [v] (truthy v)) := by intro _; rfl) : VT X C e (testM te) :=
  PTimp (pt_val h he) fun σ H Q hh => test_snd (t := lE C te) hh
/-- a op1 b op2 c -/
def chainM (f g : F2) (ta tb tc : EM C) : EM C := fun Γ w Q => ta Γ w fun m1 d1 w1 => tb Γ w1 fun m2 d2 w2 => f (m1, d1) (m2, d2) fun _ d => ∃ k, d = .bl k ∧
  (if k = true then tc Γ w2 fun m3 d3 w3 => g (m2, d2) (m3, d3) fun md d => Q md d w3 else Q .F (.bl false) w2)
theorem chain_snd {r r' : R2} {f g : F2} (s : Snd2 C r f) (s' : Snd2 C r' g) {σ : L2.St} {H : Hp} {Q : VK} (h : lE C (chainM f g ta tb tc) σ H Q) : tChain r r' (lE C ta) (lE C tb) (lE C tc) σ H Q := by
  obtain ⟨Z, Γ, w, Q0, R, ht, hq⟩ := h
  refine ⟨Z, Γ, w, _, R, ht, fun m1 d1 w1 v1 H1 h1 e1 wr1 r1 => ⟨Z, Γ, w1, _, R.step e1 wr1, h1, fun m2 d2 w2 v2 H2 h2 e2 wr2 r2 => ?_⟩⟩
  have R2 := (R.step e1 wr1).step e2 wr2
  have B2 := R.bs.ext (e1.trans e2)
  refine s R2 B2 (r1.ext (R.bs.ext e1) e2) (r2.start e1.dom) h2 fun md d v H3 k g rr => ?_
  obtain ⟨k, rfl, h3⟩ := k
  have ev : v = .bl k := rr.any (B2.grow g)
  refine ⟨k, ev, ?_⟩
  cases k with
  | false =>
    rw [if_neg Bool.false_ne_true] at h3 ⊢
    exact hq _ _ _ _ _ h3 ((e1.trans e2).trans (.same g)) (R2.wsame g) (RepM.flat (d := .bl false) rfl)
  | true =>
    rw [if_pos rfl] at h3 ⊢
    refine ⟨Z, Γ, w2, _, R2.grow g, h3, fun m3 d3 w3 v3 H4 h4 e4 wr4 r4 => ?_⟩
    have E4 := (e1.trans e2).trans ((Ext.same g).trans e4)
    refine s' ((R2.grow g).step e4 wr4) (R.bs.ext E4) ((r2.start e1.dom).ext (R.bs.ext (e1.trans e2)) ((Ext.same g).trans e4)) (r4.start ((e1.trans e2).trans (.same g)).dom) h4 fun md' d' v' H5 k' g' rr' => ?_
    exact hq _ _ _ _ _ k' (E4.trans (.same g')) (((R2.grow g).step e4 wr4).wsame g') rr'
theorem vchain {op op' : CmpOp} {r r' : R2} {f g : F2} (ho : OpR X (compareOp op) r) (s : Snd2 C r f) (ho' : OpR X (compareOp op') r') (s' : Snd2 C r' g) (ha : VE X C a ta) (hb : VE X C b tb) (hc : VE X C c tc)
    (hm : lastMarks [op, op'] [b, c] = false := by with_unfolding_all rfl) : VE X C (.Compare a [op, op'] [b, c] pos) (chainM f g ta tb tc) := PEimp (pe_chain ho ho' ha hb hc hm) fun _ _ _ h => chain_snd s s' h
theorem vt_chain {op op' : CmpOp} {r r' : R2} {f g : F2} (ho : OpR X (compareOp op) r) (s : Snd2 C r f) (ho' : OpR X (compareOp op') r') (s' : Snd2 C r' g) (ha : VE X C a ta) (hb : VE X C b tb) (hc : VE X C c tc)
    (hm : lastMarks [op, op'] [b, c] = false := by with_unfolding_all rfl) : VT X C (.Compare a [op, op'] [b, c] pos) (testM (chainM f g ta tb tc)) :=
  PTimp (pt_chain ho ho' ha hb hc hm) fun σ H Q h => chain_snd s s' (test_snd (t := tChain r r' (lE C ta) (lE C tb) (lE C tc)) h)
/-! ### and, or, not, if -/
variable {A B : BM C}
def andM (A B : BM C) : BM C := fun Γ w Q => A Γ w fun k w1 => if k = true then B Γ w1 Q else Q false w1
def orM (A B : BM C) : BM C := fun Γ w Q => A Γ w fun k w1 => if k = true then Q true w1 else B Γ w1 Q
def notM (A : BM C) : BM C := fun Γ w Q => A Γ w fun k w1 => Q (!k) w1
theorem vw_and1 (ha : VT X C a A) : VW X C (.BoolOp .And [a] pos) A := pw_and1 ha
theorem vw_or1 (ha : VT X C a A) : VW X C (.BoolOp .Or [a] pos) A := pw_or1 ha
theorem vw_and (ha : VT X C a A) (hb : VW X C (.BoolOp .And (b :: rest) pos) B) : VW X C (.BoolOp .And (a :: b :: rest) pos) (andM A B) := PWimp (pw_and ha hb) fun σ H Q ⟨Z, Γ, w, Q0, R, ht, hq⟩ =>
  ⟨Z, Γ, w, _, R, ht, fun k w1 H1 h1 e1 wr1 => by
    cases k with
    | true => rw [if_pos rfl] at h1 ⊢; exact ⟨Z, Γ, w1, _, R.step e1 wr1, h1, fun b w2 H2 h2 e2 wr2 => hq _ _ _ h2 (e1.trans e2) wr2⟩
    | false => rw [if_neg Bool.false_ne_true] at h1 ⊢; exact hq _ _ _ h1 e1 wr1⟩
theorem vw_or (ha : VT X C a A) (hb : VW X C (.BoolOp .Or (b :: rest) pos) B) : VW X C (.BoolOp .Or (a :: b :: rest) pos) (orM A B) := PWimp (pw_or ha hb) fun σ H Q ⟨Z, Γ, w, Q0, R, ht, hq⟩ =>
  ⟨Z, Γ, w, _, R, ht, fun k w1 H1 h1 e1 wr1 => by
    cases k with
    | false => rw [if_neg Bool.false_ne_true] at h1 ⊢; exact ⟨Z, Γ, w1, _, R.step e1 wr1, h1, fun b w2 H2 h2 e2 wr2 => hq _ _ _ h2 (e1.trans e2) wr2⟩
    | true => rw [if_pos rfl] at h1 ⊢; exact hq _ _ _ h1 e1 wr1⟩
theorem vt_not (ha : VT X C a A) : VT X C (.UnaryOp .Not a pos) (notM A) := PTimp (pt_not ha) fun σ H Q ⟨Z, Γ, w, Q0, R, ht, hq⟩ =>
  ⟨Z, Γ, w, _, R, ht, fun k w1 H1 h1 e1 wr1 => hq _ _ _ h1 e1 wr1⟩
/-- as values -/
def andE (ta tb : EM C) : EM C := fun Γ w Q => ta Γ w fun _ d w1 => ∃ k, d = .bl k ∧ if k = true then tb Γ w1 Q else Q .F (.bl false) w1
def orE (ta tb : EM C) : EM C := fun Γ w Q => ta Γ w fun _ d w1 => ∃ k, d = .bl k ∧ if k = true then Q .F (.bl true) w1 else tb Γ w1 Q
def notE (ta : EM C) : EM C := fun Γ w Q => ta Γ w fun _ d w1 => ∃ k, d = .bl k ∧ Q .F (.bl (!k)) w1
theorem ve_one {op} (h : VE X C a ta) : VE X C (.BoolOp op [a] pos) ta := pe_one h
theorem ve_and (ha : VE X C a ta) (hb : VE X C (.BoolOp .And (b :: rest) pos) tb) : VE X C (.BoolOp .And (a :: b :: rest) pos) (andE ta tb) := PEimp (pe_and ha hb) fun σ H Q ⟨Z, Γ, w, Q0, R, ht, hq⟩ =>
  ⟨Z, Γ, w, _, R, ht, fun md d w1 v H1 h1 e1 wr1 r1 => by
    obtain ⟨k, rfl, h1⟩ := h1
    refine ⟨k, r1.any (R.bs.ext e1), ?_⟩
    cases k with
    | true => rw [if_pos rfl] at h1 ⊢; exact ⟨Z, Γ, w1, _, R.step e1 wr1, h1, fun md d w2 v H2 h2 e2 wr2 r2 => hq _ _ _ _ _ h2 (e1.trans e2) wr2 (r2.start e1.dom)⟩
    | false => rw [if_neg Bool.false_ne_true] at h1 ⊢; exact hq _ _ _ _ _ h1 e1 wr1 (RepM.flat (d := .bl false) rfl)⟩
theorem ve_or (ha : VE X C a ta) (hb : VE X C (.BoolOp .Or (b :: rest) pos) tb) : VE X C (.BoolOp .Or (a :: b :: rest) pos) (orE ta tb) := PEimp (pe_or ha hb) fun σ H Q ⟨Z, Γ, w, Q0, R, ht, hq⟩ =>
  ⟨Z, Γ, w, _, R, ht, fun md d w1 v H1 h1 e1 wr1 r1 => by
    obtain ⟨k, rfl, h1⟩ := h1
    refine ⟨k, r1.any (R.bs.ext e1), ?_⟩
    cases k with
    | false => rw [if_neg Bool.false_ne_true] at h1 ⊢; exact ⟨Z, Γ, w1, _, R.step e1 wr1, h1, fun md d w2 v H2 h2 e2 wr2 r2 => hq _ _ _ _ _ h2 (e1.trans e2) wr2 (r2.start e1.dom)⟩
    | true => rw [if_pos rfl] at h1 ⊢; exact hq _ _ _ _ _ h1 e1 wr1 (RepM.flat (d := .bl true) rfl)⟩
theorem ve_not (ha : VE X C a ta) : VE X C (.UnaryOp .Not a pos) (notE ta) := PEimp (pe_not ha) fun σ H Q ⟨Z, Γ, w, Q0, R, ht, hq⟩ =>
  ⟨Z, Γ, w, _, R, ht, fun md d w1 v H1 h1 e1 wr1 r1 => by
    obtain ⟨k, rfl, h1⟩ := h1
    exact ⟨k, r1.any (R.bs.ext e1), hq _ _ _ _ _ h1 e1 wr1 (RepM.flat (d := .bl (!k)) rfl)⟩⟩
def ifE (A : BM C) (ta tb : EM C) : EM C := fun Γ w Q => A Γ w fun k w1 => if k = true then ta Γ w1 Q else tb Γ w1 Q
theorem ve_if (hc : VT X C c A) (ha : VE X C a ta) (hb : VE X C b tb) : VE X C (.IfExp c a b pos) (ifE A ta tb) := PEimp (pe_ifExp hc ha hb) fun σ H Q ⟨Z, Γ, w, Q0, R, ht, hq⟩ =>
  ⟨Z, Γ, w, _, R, ht, fun k w1 H1 h1 e1 wr1 => by
    cases k with
    | true => rw [if_pos rfl] at h1 ⊢; exact ⟨Z, Γ, w1, _, R.step e1 wr1, h1, fun md d w2 v H2 h2 e2 wr2 r2 => hq _ _ _ _ _ h2 (e1.trans e2) wr2 (r2.start e1.dom)⟩
    | false => rw [if_neg Bool.false_ne_true] at h1 ⊢; exact ⟨Z, Γ, w1, _, R.step e1 wr1, h1, fun md d w2 v H2 h2 e2 wr2 r2 => hq _ _ _ _ _ h2 (e1.trans e2) wr2 (r2.start e1.dom)⟩⟩
/-- a built-in function or class called by its name, a function of the arguments -/
abbrev Fn := List (Md × D) → (Md → D → Prop) → Prop
def SndC {ω : Type} (C : Cn ω) (r : List V → Hp → VK → Prop) (f : Fn) : Prop := ∀ {Z : Addr → Prop} {Γ : List Sl} {w : ω} {σ : L2.St} {Hs H : Hp} {vs : List V} {ps : List (Md × D)} {K : Md → D → Prop} {Q : VK}, Rel C Z Γ w σ H → Bs C Z Γ σ Hs H →
  RepMs C Z Γ σ Hs H ps vs → f ps K → (∀ md d v H', K md d → Same H H' → RepM C Z Γ σ Hs H' md d v → Q v H') → r vs H Q
def callM (f : Fn) (ts : AM C) : EM C := fun Γ w Q => ts Γ w fun ps w1 => f ps fun md d => Q md d w1
theorem call_snd {r : List V → Hp → VK → Prop} {f : Fn} (s : SndC C r f) {σ : L2.St} {H : Hp} {Q : VK} (h : lE C (callM f ts) σ H Q) : tCB r (lA C ts) σ H Q := by
  obtain ⟨Z, Γ, w, Q0, R, ht, hq⟩ := h
  exact ⟨Z, Γ, w, _, R, ht, fun ps w1 vs H1 h1 e1 wr1 r1 => s (R.step e1 wr1) (R.bs.ext e1) r1 h1 fun md d v H2 k g rr => hq _ _ _ _ _ k (e1.trans (.same g)) ((R.step e1 wr1).wsame g) rr⟩
theorem vcB {id : String} {r : List V → Hp → VK → Prop} {f : Fn} {x : Str} {p : Pos} (hc : CallR X (.builtin id) r) (s : SndC C r f) (hm : X.mg x = none) (ha : VA X C (e :: es) ts) (hg : Gl X x := by rfl) (hv : bootBuiltins x = some (.builtin id) := by decide +kernel) (hn : x ≠ "__name__" := by decide) (hdb : (x == ("__debug__" : Str)) = false := by decide)
    (he : starEach (e :: es) X.env = (false, eval e X.env) :: starEach es X.env := by rfl) (hpl : (backTo pos (starEach es X.env)).any (·.1) = false := by rfl) : VE X C (.Call (.Name x p) (e :: es) [] pos) (callM f ts) := PEimp (pe_callB hc hg hm hv ha hn hdb he hpl) fun _ _ _ h => call_snd s h
theorem vcT {T : String} {r : List V → Hp → VK → Prop} {f : Fn} {x : Str} {p : Pos} (hc : CallR X (.type T) r) (s : SndC C r f) (hm : X.mg x = none) (ha : VA X C (e :: es) ts) (hg : Gl X x := by rfl) (hv : bootBuiltins x = some (.type T) := by decide +kernel) (hn : x ≠ "__name__" := by decide) (hdb : (x == ("__debug__" : Str)) = false := by decide)
    (he : starEach (e :: es) X.env = (false, eval e X.env) :: starEach es X.env := by rfl) (hpl : (backTo pos (starEach es X.env)).any (·.1) = false := by rfl) : VE X C (.Call (.Name x p) (e :: es) [] pos) (callM f ts) := PEimp (pe_callTy hc hg hm hv ha hn hdb he hpl) fun _ _ _ h => call_snd s h
end
end VS

namespace VS
open PySem PySem.Spec PyProof.Rows L2
theorem le6 {n : Nat} (h : n ≤ 1000000) : n ≤ sizeLine := by rw [sizeLine_eq]; omega
section
variable {ω : Type} {C : Cn ω} {Z : Addr → Prop} {Γ : List Sl} {w : ω} {σ : L2.St} {Hs H : Hp} {md : Md} {x : V}
theorem RepM.lst {ds : List D} (r : RepM C Z Γ σ Hs H md (.lst ds) x) : ∃ a vs, x = .ref a ∧ H a = some (.lst vs) ∧ RepAll H ds (Av C Z Γ σ Hs md.item) vs := by
  cases md with
  | B =>
    obtain ⟨a, e, _, _, vs, h, q⟩ := r
    exact ⟨a, vs, e, h, q⟩
  | F =>
    obtain ⟨a, e, _, vs, h, q⟩ := (r : Rep H (.lst ds) _ x)
    exact ⟨a, vs, e, h, RepAll.move ds q (fun _ _ z => .inl z) (fun _ _ h _ => h) fun _ _ h => h⟩
  | PF =>
    obtain ⟨a, e, _, vs, h, q⟩ := (r : Rep H (.lst ds) _ x)
    exact ⟨a, vs, e, h, RepAll.move ds q (fun _ _ z => .inl z) (fun _ _ h _ => h) fun _ _ h => h⟩
  | P =>
    obtain ⟨a, e, _, vs, h, q⟩ := (r : Rep H (.lst ds) _ x)
    exact ⟨a, vs, e, h, RepAll.move ds q (fun _ _ z => .inl z) (fun _ _ h _ => h) fun _ _ h => h⟩
theorem RepM.dct {ks : List Int} {ds : List D} (r : RepM C Z Γ σ Hs H md (.dct ks ds) x) : ∃ a kvs, x = .ref a ∧ H a = some (.dK kvs) ∧ kvs.map (·.1) = ks.map Sum.inl ∧ RepAll H ds (Av C Z Γ σ Hs md.item) (kvs.map (·.2)) := by
  cases md with
  | B =>
    obtain ⟨a, e, _, _, vs, h, hk, q⟩ := r
    exact ⟨a, vs, e, h, hk, q⟩
  | F =>
    obtain ⟨a, e, _, vs, h, hk, q⟩ := (r : Rep H (.dct ks ds) _ x)
    exact ⟨a, vs, e, h, hk, RepAll.move ds q (fun _ _ z => .inl z) (fun _ _ h _ => h) fun _ _ h => h⟩
  | PF =>
    obtain ⟨a, e, _, vs, h, hk, q⟩ := (r : Rep H (.dct ks ds) _ x)
    exact ⟨a, vs, e, h, hk, RepAll.move ds q (fun _ _ z => .inl z) (fun _ _ h _ => h) fun _ _ h => h⟩
  | P =>
    obtain ⟨a, e, _, vs, h, hk, q⟩ := (r : Rep H (.dct ks ds) _ x)
    exact ⟨a, vs, e, h, hk, RepAll.move ds q (fun _ _ z => .inl z) (fun _ _ h _ => h) fun _ _ h => h⟩
theorem RepM.tup {ds : List D} (r : RepM C Z Γ σ Hs H md (.tup ds) x) : ∃ a vs, x = .ref a ∧ H a = some (.tup vs) ∧ RepAll H ds (Av C Z Γ σ Hs md.item) vs := by
  cases md with
  | B => obtain ⟨a, e, _, _, t⟩ := r; exact t.elim
  | F => exact (r : Rep H (.tup ds) _ x)
  | PF => exact (r : Rep H (.tup ds) _ x)
  | P => exact (r : Rep H (.tup ds) _ x)
theorem Md.item_ok (m : Md) : m.item.ok = true := by cases m <;> rfl
theorem RepM.int {i : Int} (r : RepM C Z Γ σ Hs H md (.int i) x) (b : Bs C Z Γ σ Hs H) : x = .int i := r.any b
theorem RepM.bl {i : Bool} (r : RepM C Z Γ σ Hs H md (.bl i) x) (b : Bs C Z Γ σ Hs H) : x = .bl i := r.any b
theorem RepM.str {i : Str} (r : RepM C Z Γ σ Hs H md (.str i) x) (b : Bs C Z Γ σ Hs H) : x = .str i := r.any b
/-- items' mode: fresh where they are flat -/
def nmL (m : Md) (ds : List D) : Md := if D.flats ds = true then .F else m
theorem nmL_ok {m : Md} {ds : List D} (h : m.ok = true) : (nmL m ds).ok = true := by unfold nmL; split <;> first | rfl | exact h
theorem RepAll.nmL {ds : List D} {vs : List V} {m : Md} (r : RepAll H ds (Av C Z Γ σ Hs m) vs) : RepAll H ds (Av C Z Γ σ Hs (VS.nmL m ds)) vs := by
  unfold VS.nmL
  split
  · rename_i h; exact RepAll.flat ds h r
  · exact r
theorem RepAll.le {ds : List D} {vs : List V} {m m' : Md} (r : RepAll H ds (Av C Z Γ σ Hs m) vs) (b : Bs C Z Γ σ Hs H) (h : m.le m' = true) (ho : m'.ok = true) : RepAll H ds (Av C Z Γ σ Hs m') vs := by
  refine RepAll.move ds r (fun c _ z => ?_) (fun _ _ h _ => h) fun _ _ h => h
  cases m <;> cases m' <;> first | (cases h; done) | (cases ho; done) | exact z | exact b.sub c z | exact b.sub c (.inl z) | exact .inl z
theorem Md.max_ok : ∀ (a b : Md), a.ok = true → b.ok = true → (a.max b).ok = true := by decide
end
section
variable {X : Cx} {ω : Type} {C : Cn ω}
/-! ### + -/
def addF : F2 := fun p q K => match p.2, q.2 with
  | .int i, .int j => K .F (.int (i + j))
  | .str s, .str t => s.length + t.length ≤ 1000000 ∧ K .F (.str (s ++ t))
  | .lst a, .lst b => a.length + b.length ≤ 1000000 ∧ K (nmL (p.1.item.max q.1.item) (a ++ b)) (.lst (a ++ b))
  | .tup a, .tup b => a.length + b.length ≤ 1000000 ∧ K (nmL (p.1.item.max q.1.item) (a ++ b)) (.tup (a ++ b))
  | _, _ => False
def rAdd4 (K : PySem.W.Frag) : R2 := fun x y H Q => (∃ i j, x = .int i ∧ y = .int j ∧ Q (.int (i + j)) H) ∨ (∃ i j, x = .str i ∧ y = .str j ∧ i.length + j.length ≤ sizeLine ∧ Q (.str (i ++ j)) H) ∨ rCat x y H Q ∨ rCatA K x y H Q
theorem op_add4 : OpR X (binaryOp .Add) (rAdd4 X.K) := op_add.or (op_add_str.or (op_cat.or op_catA))
theorem s_add {K0 : PySem.W.Frag} : Snd2 C (rAdd4 K0) addF := by
  intro Z Γ w σ Hs H x y p q K Q R B r1 r2 h hq
  obtain ⟨m1, d1⟩ := p
  obtain ⟨m2, d2⟩ := q
  cases d1 <;> cases d2 <;> first | exact h.elim | skip
  · rename_i i j
    exact .inl ⟨i, j, r1.any B, r2.any B, hq _ _ _ _ h (fun _ _ h => h) (RepM.flat (d := .int (i + j)) rfl)⟩
  · rename_i i j
    exact .inr (.inl ⟨i, j, r1.any B, r2.any B, le6 h.1, hq _ _ _ _ h.2 (fun _ _ h => h) (RepM.flat (d := .str (i ++ j)) rfl)⟩)
  · rename_i a b
    obtain ⟨l1, u1, e1, h1, q1⟩ := r1.tup
    obtain ⟨l2, u2, e2, h2, q2⟩ := r2.tup
    have hm := Md.max_ok _ _ (Md.item_ok m1) (Md.item_ok m2)
    have q1' := q1.le B (Md.le_max_left _ _ hm) hm
    have q2' := q2.le B (Md.le_max_right _ _ hm) hm
    refine .inr (.inr (.inr ⟨l1, l2, u1, u2, e1, e2, .of h1, .of h2, by rw [q1.length, q2.length]; exact le6 h.1, fun z => ?_, fun _ z => ?_, fun _ _ p hp => ?_⟩))
    · have : a = [] := by cases a with | nil => rfl | cons _ _ => obtain ⟨_, _, e, _⟩ := q1; rw [e] at z; cases z
      subst this
      refine hq _ _ _ _ h.2 (fun _ _ h => h) (RepM.mk (nmL_ok hm) ⟨l2, u2, rfl, h2, ?_⟩)
      exact RepAll.nmL q2'
    · have : b = [] := by cases b with | nil => rfl | cons _ _ => obtain ⟨_, _, e, _⟩ := q2; rw [e] at z; cases z
      subst this
      have h' := h.2
      rw [List.append_nil] at h'
      refine hq _ _ _ _ h' (fun _ _ h => h) (RepM.mk (nmL_ok hm) ⟨l1, u1, rfl, h1, ?_⟩)
      exact RepAll.nmL q1'
    · exact hq _ _ _ _ h.2 (same_new hp) (RepM.newT hp B (nmL_ok hm) (RepAll.nmL (q1'.append q2')))
  · rename_i a b
    obtain ⟨l1, u1, e1, h1, q1⟩ := r1.lst
    obtain ⟨l2, u2, e2, h2, q2⟩ := r2.lst
    have hm := Md.max_ok _ _ (Md.item_ok m1) (Md.item_ok m2)
    have q1' := q1.le B (Md.le_max_left _ _ hm) hm
    have q2' := q2.le B (Md.le_max_right _ _ hm) hm
    exact .inr (.inr (.inl ⟨l1, l2, u1, u2, e1, e2, h1, h2, by rw [q1.length, q2.length]; exact le6 h.1, fun p hp => hq _ _ _ _ h.2 (same_new hp) (RepM.newL hp B (nmL_ok hm) (RepAll.nmL (q1'.append q2')))⟩))
/-! ### - * // % -/
def intF (c : Int → Int → Prop) (g : Int → Int → D) : F2 := fun p q K => match p.2, q.2 with
  | .int i, .int j => c i j ∧ K .F (g i j)
  | _, _ => False
theorem s_int {c : Int → Int → Prop} {g : Int → Int → V} {g' : Int → Int → D} (hg : ∀ i j H O, Rep H (g' i j) O (g i j)) : Snd2 C (rI c g) (intF c g') := by
  intro Z Γ w σ Hs H x y p q K Q R B r1 r2 h hq
  obtain ⟨m1, d1⟩ := p
  obtain ⟨m2, d2⟩ := q
  cases d1 <;> cases d2 <;> first | exact h.elim | skip
  rename_i i j
  exact ⟨i, j, r1.any B, r2.any B, h.1, hq _ _ _ _ h.2 (fun _ _ h => h) (RepM.flat (hg i j _ _))⟩
def intF0 (g : Int → Int → D) : F2 := fun p q K => match p.2, q.2 with
  | .int i, .int j => K .F (g i j)
  | _, _ => False
theorem s_int0 {g : Int → Int → V} {g' : Int → Int → D} (hg : ∀ i j H O, Rep H (g' i j) O (g i j)) : Snd2 C (rI0 g) (intF0 g') := by
  intro Z Γ w σ Hs H x y p q K Q R B r1 r2 h hq
  obtain ⟨m1, d1⟩ := p
  obtain ⟨m2, d2⟩ := q
  cases d1 <;> cases d2 <;> first | exact h.elim | skip
  rename_i i j
  exact ⟨i, j, r1.any B, r2.any B, hq _ _ _ _ h (fun _ _ h => h) (RepM.flat (hg i j _ _))⟩
abbrev subF : F2 := intF0 fun i j => .int (i - j)
theorem s_sub : Snd2 C (rI0  fun i j => V.int (i - j)) subF := s_int0 (g := fun i j => V.int (i - j)) (g' := fun i j => D.int (i - j)) fun _ _ _ _ => rfl
abbrev divF : F2 := intF CDiv fun i j => .int (i / j)
theorem s_div : Snd2 C (rI CDiv fun i j => V.int (i / j)) divF := s_int (g := fun i j => V.int (i / j)) (g' := fun i j => D.int (i / j)) fun _ _ _ _ => rfl
abbrev modF : F2 := intF (fun _ j => 0 < j) fun i j => .int (i % j)
theorem s_mod : Snd2 C (rI (fun _ j => 0 < j) fun i j => V.int (i % j)) modF := s_int (g := fun i j => V.int (i % j)) (g' := fun i j => D.int (i % j)) fun _ _ _ _ => rfl
abbrev powF : F2 := intF CPow fun i j => .int (i ^ j.toNat)
theorem s_pow : Snd2 C (rI CPow fun i j => V.int (i ^ j.toNat)) powF := s_int (g := fun i j => V.int (i ^ j.toNat)) (g' := fun i j => D.int (i ^ j.toNat)) fun _ _ _ _ => rfl
def mulF : F2 := fun p q K => match p.2, q.2 with
  | .int i, .int j => ((-(2 ^ 64) < i ∧ i < 2 ^ 64) ∨ (-(2 ^ 64) < j ∧ j < 2 ^ 64)) ∧ K .F (.int (i * j))
  | .lst a, .int k => k ≤ 1000000 ∧ -1000000 ≤ k ∧ a.length * k.toNat ≤ 1000000 ∧ K (nmL p.1.item (List.replicate k.toNat a).flatten) (.lst (List.replicate k.toNat a).flatten)
  | .tup a, .int k => a ≠ [] ∧ 2 ≤ k ∧ k ≤ 1000 ∧ a.length ≤ 1000 ∧ K (nmL p.1.item (List.replicate k.toNat a).flatten) (.tup (List.replicate k.toNat a).flatten)
  | _, _ => False
def rMul3 (K : PySem.W.Frag) : R2 := fun x y H Q => rI CMul (fun i j => .int (i * j)) x y H Q ∨ rRep x y H Q ∨ rRepT K x y H Q
theorem op_mul3 : OpR X (binaryOp .Mult) (rMul3 X.K) := op_mul.or (op_rep.or op_repT)
theorem s_mul {K0 : PySem.W.Frag} : Snd2 C (rMul3 K0) mulF := by
  intro Z Γ w σ Hs H x y p q K Q R B r1 r2 h hq
  obtain ⟨m1, d1⟩ := p
  obtain ⟨m2, d2⟩ := q
  cases d1 <;> cases d2 <;> first | exact h.elim | skip
  · rename_i i j
    exact .inl ⟨i, j, r1.any B, r2.any B, h.1, hq _ _ _ _ h.2 (fun _ _ h => h) (RepM.flat (d := .int (i * j)) rfl)⟩
  · rename_i a k
    obtain ⟨l1, u1, e1, h1, q1⟩ := r1.tup
    refine .inr (.inr ⟨l1, k, u1, e1, r2.any B, .of h1, ?_, h.2.1, h.2.2.1, by rw [q1.length]; exact h.2.2.2.1, fun p hp => ?_⟩)
    · intro z
      have := q1.length
      rw [z] at this
      exact h.1 (List.length_eq_zero_iff.mp this.symm)
    · exact hq _ _ _ _ h.2.2.2.2 (same_new hp) (RepM.newT hp B (nmL_ok (Md.item_ok _)) (RepAll.nmL (q1.rep _)))
  · rename_i a k
    obtain ⟨l1, u1, e1, h1, q1⟩ := r1.lst
    refine .inr (.inl ⟨l1, k, u1, e1, r2.any B, h1, by have := h.2.1; omega, by have := h.1; omega, by rw [q1.length]; exact le6 h.2.2.1, fun p hp => ?_⟩)
    exact hq _ _ _ _ h.2.2.2 (same_new hp) (RepM.newL hp B (nmL_ok (Md.item_ok _)) (RepAll.nmL (q1.rep _)))
/-! ### comparisons -/
abbrev ltF : F2 := intF0 fun i j => .bl (decide (i < j))
abbrev leF : F2 := intF0 fun i j => .bl (decide (i ≤ j))
abbrev gtF : F2 := intF0 fun i j => .bl (decide (j < i))
abbrev geF : F2 := intF0 fun i j => .bl (decide (j ≤ i))
theorem s_lt : Snd2 C (rI0  fun i j => V.bl (decide (i < j))) ltF := s_int0 (g := fun i j => V.bl (decide (i < j))) (g' := fun i j => D.bl (decide (i < j))) fun _ _ _ _ => rfl
theorem s_le : Snd2 C (rI0  fun i j => V.bl (decide (i ≤ j))) leF := s_int0 (g := fun i j => V.bl (decide (i ≤ j))) (g' := fun i j => D.bl (decide (i ≤ j))) fun _ _ _ _ => rfl
theorem s_gt : Snd2 C (rI0  fun i j => V.bl (decide (j < i))) gtF := s_int0 (g := fun i j => V.bl (decide (j < i))) (g' := fun i j => D.bl (decide (j < i))) fun _ _ _ _ => rfl
theorem s_ge : Snd2 C (rI0  fun i j => V.bl (decide (j ≤ i))) geF := s_int0 (g := fun i j => V.bl (decide (j ≤ i))) (g' := fun i j => D.bl (decide (j ≤ i))) fun _ _ _ _ => rfl
mutual
def D.py : D → PyData
  | .non => .none | .bl b => .bool b | .int i => .int i | .str s => .str s | .ref _ => .none
  | .tup l => .tuple (D.pys l) | .lst l => .list (D.pys l) | .dct _ _ => .dict [] | .fdc _ => .dict [] | .ll _ _ => .none
def D.pys : List D → List PyData
  | [] => []
  | d :: ds => d.py :: D.pys ds
end
mutual
def D.isPy : D → Bool
  | .ref _ => false | .dct _ _ => false | .fdc _ => false | .ll _ _ => false | .tup l => D.arePy l | .lst l => D.arePy l
  | .str s => PyData.strOk s
  | _ => true
def D.arePy : List D → Bool
  | [] => true
  | d :: ds => d.isPy && D.arePy ds
end
mutual
def D.depth : D → Nat
  | .tup l => D.depths l + 1 | .lst l => D.depths l + 1
  | _ => 0
def D.depths : List D → Nat
  | [] => 0
  | d :: ds => Max.max d.depth (D.depths ds)
end
def D.cmp (d : D) : Prop := d.isPy = true ∧ d.depth ≤ 64
mutual
theorem D.canLay : ∀ d : D, d.isPy = true → d.py.canLay0 = true
  | .non, _ => rfl
  | .bl _, _ => rfl
  | .int _, _ => rfl
  | .str _, h => h
  | .ref _, h => by cases h
  | .tup l, h => D.canLays l h
  | .lst l, h => D.canLays l h
  | .dct _ _, h => by cases h
  | .fdc _, h => by cases h
  | .ll _ _, h => by cases h
theorem D.canLays : ∀ ds : List D, D.arePy ds = true → PyData.canLayAll0 (D.pys ds) = true
  | [], _ => rfl
  | d :: ds, h => by
    have h : (d.isPy && D.arePy ds) = true := h
    obtain ⟨h1, h2⟩ := Bool.and_eq_true_iff.mp h
    show (d.py.canLay0 && PyData.canLayAll0 (D.pys ds)) = true
    rw [D.canLay d h1, D.canLays ds h2]; rfl
end
mutual
theorem D.depth_py : ∀ d : D, d.isPy = true → d.py.depth = d.depth
  | .non, _ => rfl
  | .bl _, _ => rfl
  | .int _, _ => rfl
  | .str _, h => rfl
  | .ref _, h => by cases h
  | .tup l, h => congrArg (· + 1) (D.depths_py l h)
  | .lst l, h => congrArg (· + 1) (D.depths_py l h)
  | .dct _ _, h => by cases h
  | .fdc _, h => by cases h
  | .ll _ _, h => by cases h
theorem D.depths_py : ∀ ds : List D, D.arePy ds = true → PyData.depthAll (D.pys ds) = D.depths ds
  | [], _ => rfl
  | d :: ds, h => by
    have h : (d.isPy && D.arePy ds) = true := h
    obtain ⟨h1, h2⟩ := Bool.and_eq_true_iff.mp h
    show max d.py.depth (PyData.depthAll (D.pys ds)) = Max.max d.depth (D.depths ds)
    rw [D.depth_py d h1, D.depths_py ds h2]
end
theorem D.cmp.shaped {d : D} (h : d.cmp) : SeqAt.shaped d.py = true := by
  unfold SeqAt.shaped
  rw [D.canLay d h.1, D.depth_py d h.1, decide_eq_true h.2]; rfl
mutual
theorem Rep.dp {K : PySem.W.Frag} {H : Hp} : ∀ (d : D) {O : Addr → Prop} {v : V}, d.isPy = true → Rep H d O v → Dp K H v d.py
  | .non, _, _, _, r => by cases r; exact .non
  | .bl _, _, _, _, r => by cases r; exact .bl _
  | .int _, _, _, _, r => by cases r; exact .int _
  | .str _, _, _, _, r => by cases r; exact .str _
  | .ref _, _, _, h, _ => by cases h
  | .tup l, _, _, h, r => by
    obtain ⟨a, vs, rfl, h1, q⟩ := r
    exact .tup (.of h1) (RepAll.dp l h q)
  | .lst l, _, _, h, r => by
    obtain ⟨a, rfl, _, vs, h1, q⟩ := r
    exact .lst (.of h1) (RepAll.dp l h q)
  | .dct _ _, _, _, h, _ => by cases h
  | .fdc _, _, _, h, _ => by cases h
  | .ll _ _, _, _, h, _ => by cases h
theorem RepAll.dp {K : PySem.W.Frag} {H : Hp} : ∀ (ds : List D) {O : Addr → Prop} {vs : List V}, D.arePy ds = true → RepAll H ds O vs → DpAll K H vs (D.pys ds)
  | [], _, _, _, r => by cases r; exact .nil
  | d :: ds, _, _, h, r => by
    have h : (d.isPy && D.arePy ds) = true := h
    obtain ⟨h1, h2⟩ := Bool.and_eq_true_iff.mp h
    obtain ⟨v, r', rfl, h', q'⟩ := r
    exact .cons (Rep.dp d h1 h') (RepAll.dp ds h2 q')
end
def D.eqv (d e : D) : Bool := PyData.eqv d.py e.py
def eqF : F2 := fun p q K => p.2.cmp ∧ q.2.cmp ∧ K .F (.bl (p.2.eqv q.2))
def neF : F2 := fun p q K => p.2.cmp ∧ q.2.cmp ∧ K .F (.bl (!p.2.eqv q.2))
theorem s_eq {K0 : PySem.W.Frag} : Snd2 C (rEqD K0) eqF := fun R B r1 r2 h hq =>
  ⟨_, _, Rep.dp _ h.1.1 (r1.any B), Rep.dp _ h.2.1.1 (r2.any B), h.1.shaped, h.2.1.shaped, hq _ _ _ _ h.2.2 (fun _ _ h => h) (RepM.flat (d := .bl _) rfl)⟩
theorem s_ne {K0 : PySem.W.Frag} : Snd2 C (rNeD K0) neF := fun R B r1 r2 h hq =>
  ⟨_, _, Rep.dp _ h.1.1 (r1.any B), Rep.dp _ h.2.1.1 (r2.any B), h.1.shaped, h.2.1.shaped, hq _ _ _ _ h.2.2 (fun _ _ h => h) (RepM.flat (d := .bl _) rfl)⟩
/-- is None, is True -/
def isBF (neg : Bool) : F2 := fun p q K => match p.2, q.2 with
  | .bl a, .bl b => K .F (.bl (xor neg (decide (a = b))))
  | _, _ => False
theorem s_isB : Snd2 C rIsB (isBF false) := by
  intro Z Γ w σ Hs H x y p q K Q R B r1 r2 h hq
  obtain ⟨m1, d1⟩ := p
  obtain ⟨m2, d2⟩ := q
  cases d1 <;> cases d2 <;> first | exact h.elim | skip
  rename_i a b
  exact ⟨a, b, r1.any B, r2.any B, hq _ _ _ _ h (fun _ _ h => h) (RepM.flat (d := .bl _) (by simp [Rep]))⟩
theorem s_notB : Snd2 C rNotB (isBF true) := by
  intro Z Γ w σ Hs H x y p q K Q R B r1 r2 h hq
  obtain ⟨m1, d1⟩ := p
  obtain ⟨m2, d2⟩ := q
  cases d1 <;> cases d2 <;> first | exact h.elim | skip
  rename_i a b
  exact ⟨a, b, r1.any B, r2.any B, hq _ _ _ _ h (fun _ _ h => h) (RepM.flat (d := .bl _) (by simp [Rep]))⟩
def D.isNon : D → Bool | .non => true | _ => false
def isNF (neg : Bool) : F2 := fun p q K => q.2 = .non ∧ K .F (.bl (xor neg p.2.isNon))
theorem rep_non {H : Hp} {d : D} {O : Addr → Prop} {v : V} (r : Rep H d O v) : decide (v = .non) = d.isNon := by
  cases d with
  | non => cases r; rfl
  | bl b => cases r; rfl
  | int i => cases r; rfl
  | str s => cases r; rfl
  | ref a => cases r; rfl
  | tup l => obtain ⟨a, vs, rfl, _⟩ := r; rfl
  | lst l => obtain ⟨a, rfl, _⟩ := r; rfl
  | dct k l => obtain ⟨a, rfl, _⟩ := r; rfl
  | fdc ps => obtain ⟨a, od, rfl, _⟩ := r; rfl
  | ll a bs => obtain ⟨rfl, _⟩ := r; rfl
theorem s_isN : Snd2 C (fun x y H Q => y = .non ∧ Q (.bl (decide (x = .non))) H) (isNF false) := by
  intro Z Γ w σ Hs H x y p q K Q R B r1 r2 h hq
  have e : y = .non := by have := r2.any B; rw [h.1] at this; exact this
  exact ⟨e, hq _ _ _ _ h.2 (fun _ _ h => h) (RepM.flat (d := .bl _) (by rw [rep_non (r1.any B)]; simp [Rep]))⟩
theorem s_notN : Snd2 C (fun x y H Q => y = .non ∧ Q (.bl (!decide (x = .non))) H) (isNF true) := by
  intro Z Γ w σ Hs H x y p q K Q R B r1 r2 h hq
  have e : y = .non := by have := r2.any B; rw [h.1] at this; exact this
  exact ⟨e, hq _ _ _ _ h.2 (fun _ _ h => h) (RepM.flat (d := .bl _) (by rw [rep_non (r1.any B)]; simp [Rep]))⟩
/-- x in a list of whole numbers -/
def inF (neg : Bool) : F2 := fun p q K => ∃ (i : Int) (ns : List Int), p.2 = .int i ∧ q.2 = .lst (ns.map D.int) ∧ K .F (.bl (xor neg (decide (i ∈ ns))))
theorem inV_ints (i : Int) : ∀ ns : List Int, inV (.int i) (ns.map V.int) = decide (i ∈ ns)
  | [] => by simp [inV]
  | n :: ns => by
    have ih := inV_ints i ns
    unfold inV at ih ⊢
    rw [List.map_cons, List.any_cons, ih]
    have e : eqV (.int n) (.int i) = (n == i) := rfl
    rw [e]
    by_cases h : n = i
    · simp [h]
    · have h' : ¬ i = n := fun z => h z.symm
      simp [h, h']
theorem flat_ints : ∀ ns : List Int, (ns.map V.int).all flatV = true
  | [] => rfl
  | n :: ns => by rw [List.map_cons, List.all_cons, flat_ints ns]; rfl
theorem s_in {K0 : PySem.W.Frag} {neg : Bool} : Snd2 C (rIn K0 neg) (inF neg) := by
  intro Z Γ w σ Hs H x y p q K Q R B r1 r2 h hq
  obtain ⟨m1, d1⟩ := p
  obtain ⟨m2, d2⟩ := q
  obtain ⟨i, ns, rfl, rfl, h⟩ := h
  obtain ⟨a, vs, e, hl, rr⟩ := r2.lst
  have ex : x = .int i := r1.any B
  subst ex
  cases RepAll.ints ns rr
  refine ⟨a, _, e, .inl (.of hl), rfl, flat_ints ns, hq _ _ _ _ h (fun _ _ h => h) (RepM.flat (d := .bl _) ?_)⟩
  rw [inV_ints]
  cases neg <;> simp [Rep]
/-! ### subscripts -/
def ixF : F2 := fun p q K => match p.2, q.2 with
  | .lst l, .int i => ∃ d, atI l i = some d ∧ K p.1.item d
  | .tup l, .int i => ∃ d, atI l i = some d ∧ K p.1.item d
  | .str s, .int i => s.length ≤ 1000000 ∧ ∃ c, atI s.cps.toList i = some c ∧ K .F (.str ⟨#[c]⟩)
  | _, _ => False
theorem atI_rep {H : Hp} {ds : List D} {vs : List V} {O : Addr → Prop} {i : Int} {d : D} (r : RepAll H ds O vs) (h : atI ds i = some d) : ∃ v, atI vs i = some v ∧ Rep H d O v := by
  unfold atI at h ⊢
  rw [r.length]
  cases e : ixN ds.length i with
  | none => rw [e] at h; cases h
  | some j =>
    rw [e] at h
    obtain ⟨v, h1, h2⟩ := r.get (show ds[j]? = some d from h)
    exact ⟨v, h1, h2⟩
theorem s_ix {K0 : PySem.W.Frag} : Snd2 C (rIx K0) ixF := by
  intro Z Γ w σ Hs H x y p q K Q R B r1 r2 h hq
  obtain ⟨m1, d1⟩ := p
  obtain ⟨m2, d2⟩ := q
  cases d1 <;> cases d2 <;> first | exact h.elim | skip
  · rename_i s i
    obtain ⟨h1, c, h2, h3⟩ := h
    exact .inr (.inr ⟨s, i, c, r1.any B, r2.any B, le6 h1, h2, hq _ _ _ _ h3 (fun _ _ h => h) (RepM.flat (d := .str _) rfl)⟩)
  · rename_i l i
    obtain ⟨d, h1, h2⟩ := h
    obtain ⟨a, vs, e, hl, rr⟩ := r1.tup
    obtain ⟨v, h3, h4⟩ := atI_rep rr h1
    exact .inr (.inl ⟨a, vs, i, v, e, r2.any B, .of hl, h3, hq _ _ _ _ h2 (fun _ _ h => h) (RepM.mk (Md.item_ok _) h4)⟩)
  · rename_i l i
    obtain ⟨d, h1, h2⟩ := h
    obtain ⟨a, vs, e, hl, rr⟩ := r1.lst
    obtain ⟨v, h3, h4⟩ := atI_rep rr h1
    exact .inl ⟨a, vs, i, v, e, r2.any B, .of hl, h3, hq _ _ _ _ h2 (fun _ _ h => h) (RepM.mk (Md.item_ok _) h4)⟩
/-! ### built-in functions and classes -/
def lenF : Fn := fun ps K => match ps with
  | [(_, .lst l)] => K .F (.int l.length)
  | [(_, .tup l)] => K .F (.int l.length)
  | [(_, .str s)] => s.length ≤ 1000000 ∧ K .F (.int s.length)
  | [(_, .dct k l)] => K .F (.int l.length)
  | _ => False
def rLenA (K : PySem.W.Frag) : List V → Hp → VK → Prop := fun xs H Q => (∃ x n, xs = [x] ∧ LenV K x H n ∧ Q (.int n) H) ∨ (∃ a kvs, xs = [V.ref a] ∧ H a = some (.dK kvs) ∧ Q (.int kvs.length) H)
theorem call_lenA : CallR X (.builtin "len") (rLenA X.K) := call_len.or call_lenD
theorem RepMs.one {Z : Addr → Prop} {Γ : List Sl} {σ : L2.St} {Hs H : Hp} {p : Md × D} {vs : List V} (r : RepMs C Z Γ σ Hs H [p] vs) : ∃ v, vs = [v] ∧ RepM C Z Γ σ Hs H p.1 p.2 v := by
  obtain ⟨v, r', rfl, h, q⟩ := r
  cases q
  exact ⟨v, rfl, h⟩
theorem RepMs.two {Z : Addr → Prop} {Γ : List Sl} {σ : L2.St} {Hs H : Hp} {p q : Md × D} {vs : List V} (r : RepMs C Z Γ σ Hs H [p, q] vs) : ∃ v u, vs = [v, u] ∧ RepM C Z Γ σ Hs H p.1 p.2 v ∧ RepM C Z Γ σ Hs H q.1 q.2 u := by
  obtain ⟨v, r', rfl, h, u, r'', rfl, h', q⟩ := r
  cases q
  exact ⟨v, u, rfl, h, h'⟩
theorem s_len {K0 : PySem.W.Frag} : SndC C (rLenA K0) lenF := by
  intro Z Γ w σ Hs H vs ps K Q R B r h hq
  unfold lenF at h
  split at h
  · rename_i m l
    obtain ⟨v, rfl, rr⟩ := r.one
    obtain ⟨a, us, rfl, hl, q⟩ := RepM.lst (ds := l) rr
    exact .inl ⟨_, _, rfl, .inl ⟨us, .of hl, q.length.symm⟩, hq _ _ _ _ h (fun _ _ h => h) (RepM.flat (d := .int _) rfl)⟩
  · rename_i m l
    obtain ⟨v, rfl, rr⟩ := r.one
    obtain ⟨a, us, rfl, hl, q⟩ := RepM.tup (ds := l) rr
    exact .inl ⟨_, _, rfl, .inr ⟨us, .of hl, q.length.symm⟩, hq _ _ _ _ h (fun _ _ h => h) (RepM.flat (d := .int _) rfl)⟩
  · rename_i m s
    obtain ⟨v, rfl, rr⟩ := r.one
    have e : v = .str s := rr.any B
    subst e
    exact .inl ⟨_, _, rfl, ⟨le6 h.1, rfl⟩, hq _ _ _ _ h.2 (fun _ _ h => h) (RepM.flat (d := .int _) rfl)⟩
  · rename_i m k l
    obtain ⟨v, rfl, rr⟩ := r.one
    obtain ⟨a, kvs, rfl, hl, hk, q⟩ := RepM.dct (ks := k) (ds := l) rr
    refine .inr ⟨a, kvs, rfl, hl, ?_⟩
    have e : kvs.length = l.length := by rw [← q.length, List.length_map]
    rw [e]
    exact hq _ _ _ _ h (fun _ _ h => h) (RepM.flat (d := .int _) rfl)
  · exact h.elim
def sumF : Fn := fun ps K => ∃ (m : Md) (ns : List Int), ps = [(m, .lst (ns.map D.int))] ∧ K .F (.int ns.sum)
theorem s_sum {K0 : PySem.W.Frag} : SndC C (rSum K0) sumF := by
  intro Z Γ w σ Hs H vs ps K Q R B r h hq
  obtain ⟨m, ns, rfl, h⟩ := h
  obtain ⟨v, rfl, rr⟩ := r.one
  obtain ⟨a, us, rfl, hl, q⟩ := RepM.lst (ds := ns.map D.int) rr
  cases RepAll.ints ns q
  exact ⟨a, ns, rfl, .of hl, hq _ _ _ _ h (fun _ _ h => h) (RepM.flat (d := .int _) rfl)⟩
def mxF : Fn := fun ps K => match ps with
  | [(_, .int i), (_, .int j)] => K .F (.int (if j > i then j else i))
  | _ => False
def mnF : Fn := fun ps K => match ps with
  | [(_, .int i), (_, .int j)] => K .F (.int (if j < i then j else i))
  | _ => False
theorem s_max2 : SndC C (fun xs H Q => ∃ i j, xs = [.int i, .int j] ∧ Q (.int (if j > i then j else i)) H) mxF := by
  intro Z Γ w σ Hs H vs ps K Q R B r h hq
  unfold mxF at h
  split at h
  · rename_i i _ j
    obtain ⟨v, u, rfl, r1, r2⟩ := r.two
    have e1 : v = .int i := r1.any B
    have e2 : u = .int j := r2.any B
    subst e1 e2
    exact ⟨i, j, rfl, hq _ _ _ _ h (fun _ _ h => h) (RepM.flat (d := .int _) rfl)⟩
  · exact h.elim
theorem s_min2 : SndC C (fun xs H Q => ∃ i j, xs = [.int i, .int j] ∧ Q (.int (if j < i then j else i)) H) mnF := by
  intro Z Γ w σ Hs H vs ps K Q R B r h hq
  unfold mnF at h
  split at h
  · rename_i i _ j
    obtain ⟨v, u, rfl, r1, r2⟩ := r.two
    have e1 : v = .int i := r1.any B
    have e2 : u = .int j := r2.any B
    subst e1 e2
    exact ⟨i, j, rfl, hq _ _ _ _ h (fun _ _ h => h) (RepM.flat (d := .int _) rfl)⟩
  · exact h.elim
/-- max, min of a list of whole numbers -/
def mxLF : Fn := fun ps K => ∃ (m : Md) (ns : List Int), ps = [(m, .lst (ns.map D.int))] ∧ 0 < ns.length ∧ ∀ z, z ∈ ns → (∀ y, y ∈ ns → y ≤ z) → K .F (.int z)
def mnLF : Fn := fun ps K => ∃ (m : Md) (ns : List Int), ps = [(m, .lst (ns.map D.int))] ∧ 0 < ns.length ∧ ∀ z, z ∈ ns → (∀ y, y ∈ ns → z ≤ y) → K .F (.int z)
theorem s_maxL {K0 : PySem.W.Frag} : SndC C (rMax K0) mxLF := by
  intro Z Γ w σ Hs H vs ps K Q R B r h hq
  obtain ⟨m, ns, rfl, h0, h⟩ := h
  obtain ⟨v, rfl, rr⟩ := r.one
  obtain ⟨a, us, rfl, hl, q⟩ := RepM.lst (ds := ns.map D.int) rr
  cases RepAll.ints ns q
  exact ⟨a, ns, rfl, .of hl, h0, fun z hz hy => hq _ _ _ _ (h z hz hy) (fun _ _ h => h) (RepM.flat (d := .int _) rfl)⟩
theorem s_minL {K0 : PySem.W.Frag} : SndC C (rMin K0) mnLF := by
  intro Z Γ w σ Hs H vs ps K Q R B r h hq
  obtain ⟨m, ns, rfl, h0, h⟩ := h
  obtain ⟨v, rfl, rr⟩ := r.one
  obtain ⟨a, us, rfl, hl, q⟩ := RepM.lst (ds := ns.map D.int) rr
  cases RepAll.ints ns q
  exact ⟨a, ns, rfl, .of hl, h0, fun z hz hy => hq _ _ _ _ (h z hz hy) (fun _ _ h => h) (RepM.flat (d := .int _) rfl)⟩
def intCF : Fn := fun ps K => match ps with
  | [(_, .int i)] => K .F (.int i)
  | [(_, .bl k)] => K .F (.int (if k then 1 else 0))
  | _ => False
theorem s_int1 : SndC C (fun xs H Q => (∃ i, xs = [.int i] ∧ Q (.int i) H) ∨ ∃ k, xs = [.bl k] ∧ Q (.int (if k then 1 else 0)) H) intCF := by
  intro Z Γ w σ Hs H vs ps K Q R B r h hq
  unfold intCF at h
  split at h
  · rename_i i
    obtain ⟨v, rfl, rr⟩ := r.one
    have e1 : v = .int i := rr.any B
    subst e1
    exact .inl ⟨i, rfl, hq _ _ _ _ h (fun _ _ h => h) (RepM.flat (d := .int _) rfl)⟩
  · rename_i i
    obtain ⟨v, rfl, rr⟩ := r.one
    have e1 : v = .bl i := rr.any B
    subst e1
    exact .inr ⟨i, rfl, hq _ _ _ _ h (fun _ _ h => h) (RepM.flat (d := .int _) rfl)⟩
  · exact h.elim
def strCF : Fn := fun ps K => match ps with
  | [(_, .int i)] => i.natAbs < 2 ^ 64 ∧ K .F (.str (toString i))
  | _ => False
theorem s_str1 : SndC C (fun xs H Q => ∃ i : Int, xs = [.int i] ∧ i.natAbs.log2 < 1920 ∧ Q (.str (toString i)) H) strCF := by
  intro Z Γ w σ Hs H vs ps K Q R B r h hq
  unfold strCF at h
  split at h
  · rename_i i
    obtain ⟨v, rfl, rr⟩ := r.one
    have e1 : v = .int i := rr.any B
    subst e1
    exact ⟨i, rfl, Nat.lt_of_lt_of_le (PySem.Flt.log2_lt_of (by decide) h.1) (by decide), hq _ _ _ _ h.2 (fun _ _ h => h) (RepM.flat (d := .str _) rfl)⟩
  · exact h.elim
def listF : Fn := fun ps K => match ps with
  | [(m, .lst l)] => K (nmL m.item l) (.lst l)
  | [(m, .tup l)] => K (nmL m.item l) (.lst l)
  | _ => False
theorem s_list {K0 : PySem.W.Frag} : SndC C (fun xs H Q => ∃ p ys, xs = [.ref p] ∧ (SqL K0 H p ys ∨ SqT K0 H p ys) ∧ ∀ l, H l = none → Q (.ref l) (upd H l (.lst ys))) listF := by
  intro Z Γ w σ Hs H vs ps K Q R B r h hq
  unfold listF at h
  split at h
  · rename_i m l
    obtain ⟨v, rfl, rr⟩ := r.one
    obtain ⟨a, us, rfl, hl, q⟩ := RepM.lst (ds := l) rr
    exact ⟨a, us, rfl, .inl (.of hl), fun p hp => hq _ _ _ _ h (same_new hp) (RepM.newL hp B (nmL_ok (Md.item_ok _)) (RepAll.nmL q))⟩
  · rename_i m l
    obtain ⟨v, rfl, rr⟩ := r.one
    obtain ⟨a, us, rfl, hl, q⟩ := RepM.tup (ds := l) rr
    exact ⟨a, us, rfl, .inr (.of hl), fun p hp => hq _ _ _ _ h (same_new hp) (RepM.newL hp B (nmL_ok (Md.item_ok _)) (RepAll.nmL q))⟩
  · exact h.elim
def tupleF : Fn := fun ps K => match ps with
  | [(m, .lst l)] => K (nmL m.item l) (.tup l)
  | [(m, .tup l)] => K (nmL m.item l) (.tup l)
  | _ => False
theorem s_tuple {K0 : PySem.W.Frag} : SndC C (fun xs H Q => ∃ a ys, xs = [.ref a] ∧ ((SqL K0 H a ys ∧ ∀ l, H l = none → Q (.ref l) (upd H l (.tup ys))) ∨ (SqT K0 H a ys ∧ Q (.ref a) H))) tupleF := by
  intro Z Γ w σ Hs H vs ps K Q R B r h hq
  unfold tupleF at h
  split at h
  · rename_i m l
    obtain ⟨v, rfl, rr⟩ := r.one
    obtain ⟨a, us, rfl, hl, q⟩ := RepM.lst (ds := l) rr
    exact ⟨a, us, rfl, .inl ⟨.of hl, fun p hp => hq _ _ _ _ h (same_new hp) (RepM.newT hp B (nmL_ok (Md.item_ok _)) (RepAll.nmL q))⟩⟩
  · rename_i m l
    obtain ⟨v, rfl, rr⟩ := r.one
    obtain ⟨a, us, rfl, hl, q⟩ := RepM.tup (ds := l) rr
    exact ⟨a, us, rfl, .inr ⟨.of hl, hq _ _ _ _ h (fun _ _ h => h) (RepM.mk (nmL_ok (Md.item_ok _)) ⟨a, us, rfl, hl, RepAll.nmL q⟩)⟩⟩
  · exact h.elim
/-- sorted of whole numbers -/
def srt (ns : List Int) : List Int := ns.mergeSort (fun a b => decide (a ≤ b))
theorem srt_perm (ns : List Int) : (srt ns).Perm ns := List.mergeSort_perm _ _
theorem srt_up (ns : List Int) : (srt ns).Pairwise (· ≤ ·) := by
  have h := List.pairwise_mergeSort (le := fun a b : Int => decide (a ≤ b)) (fun a b c h1 h2 => by simp at *; omega) (fun a b => by simp; omega) ns
  exact h.imp fun h => by simpa using h
def sortedF : Fn := fun ps K => ∃ (m : Md) (ns : List Int), ps = [(m, .lst (ns.map D.int))] ∧ K .F (.lst ((srt ns).map D.int))
theorem s_sorted {K0 : PySem.W.Frag} : SndC C (rSortedI K0) sortedF := by
  intro Z Γ w σ Hs H vs ps K Q R B r h hq
  obtain ⟨m, ns, rfl, h⟩ := h
  obtain ⟨v, rfl, rr⟩ := r.one
  obtain ⟨a, us, rfl, hl, q⟩ := RepM.lst (ds := ns.map D.int) rr
  cases RepAll.ints ns q
  refine ⟨a, ns, rfl, .of hl, fun ns' p hp hs hn => ?_⟩
  have e : ns' = srt ns := PySem.W.ksm_same (hp.trans (srt_perm ns).symm) hs (srt_up ns)
  subst e
  exact hq _ _ _ _ h (same_new hn) (RepM.newL hn B rfl (RepAll.ofInts _))
end
end VS

namespace VS
open PySem PySem.Spec PyProof.Rows L2
/-! ### slices -/
abbrev OM {ω : Type} (C : Cn ω) := List Sl → ω → (Option Int → ω → Prop) → Prop
def lO {ω : Type} (C : Cn ω) (t : OM C) : TO := fun σ H Q => ∃ Z Γ w Q0, Rel C Z Γ w σ H ∧ t Γ w Q0 ∧ ∀ b w' H', Q0 b w' → Ext C.W H H' → C.wr w' H' → Q b H'
abbrev VO (X : Cx) {ω : Type} (C : Cn ω) (e : Option Expr) (t : OM C) : Prop := PO X e (lO C t)
def cutD (l : List D) (lo hi : Option Int) : List D := (l.drop (HT.sIx l.length 0 lo)).take (HT.sIx l.length l.length hi - HT.sIx l.length 0 lo)
theorem cut_rep {H : Hp} {ds : List D} {vs : List V} {O : Addr → Prop} (r : RepAll H ds O vs) (lo hi : Option Int) : RepAll H (cutD ds lo hi) O (cutV vs lo hi) := by
  unfold cutD cutV
  rw [r.length]
  exact (r.drop _).take _
section
variable {X : Cx} {ω : Type} {C : Cn ω} {e : Expr} {te : EM C} {lo hi : Option Expr} {tl th : OM C} {pos p2 : Pos}
def noPart : OM C := fun _ w Q => Q none w
def partM (te : EM C) : OM C := fun Γ w Q => te Γ w fun _ d w1 => ∃ i, d = .int i ∧ Q (some i) w1
theorem vo0 : VO X C none noPart := POimp po_none fun σ H Q ⟨Z, Γ, w, Q0, R, ht, hq⟩ => hq _ _ _ ht (.refl _ _) R.wr
theorem vo1 (he : VE X C e te) : VO X C (some e) (partM te) := POimp (po_some he) fun σ H Q ⟨Z, Γ, w, Q0, R, ht, hq⟩ => ⟨Z, Γ, w, _, R, ht, fun md d w1 v H1 h1 e1 wr1 r1 => by
  obtain ⟨i, rfl, h1⟩ := h1
  exact ⟨i, r1.any (R.bs.ext e1), hq _ _ _ h1 e1 wr1⟩⟩
def slD (p : Md × D) (lo hi : Option Int) (K : Md → D → Prop) : Prop := match p.2 with
  | .lst l => K (nmL p.1.item (cutD l lo hi)) (.lst (cutD l lo hi))
  | .tup l => K (nmL p.1.item (cutD l lo hi)) (.tup (cutD l lo hi))
  | _ => False
def slM (te : EM C) (tl th : OM C) : EM C := fun Γ w Q => te Γ w fun m d w1 => tl Γ w1 fun l w2 => th Γ w2 fun u w3 => slD (m, d) l u fun md d => Q md d w3
theorem sIx_whole {α : Type} {l : List α} {a b : Nat} (h : a = 0 ∧ b = l.length) : (l.drop a).take (b - a) = l := by
  rw [h.1, h.2, List.drop_zero, Nat.sub_zero, List.take_length]
theorem vsl (he : VE X C e te) (hl : VO X C lo tl) (hh : VO X C hi th) : VE X C (.Subscript e (.Slice lo hi none p2) pos) (slM te tl th) :=
  PEimp (pe_slice (sl_list.or sl_tupA) he hl hh) fun σ H Q ⟨Z, Γ, w, Q0, R, ht, hq⟩ => ⟨Z, Γ, w, _, R, ht, fun m d w1 v H1 h1 e1 wr1 r1 => ⟨Z, Γ, w1, _, R.step e1 wr1, h1, fun l w2 H2 h2 e2 wr2 => ⟨Z, Γ, w2, _, (R.step e1 wr1).step e2 wr2, h2, fun u w3 H3 h3 e3 wr3 => by
    have E3 := (e1.trans e2).trans e3
    have R3 := ((R.step e1 wr1).step e2 wr2).step e3 wr3
    have B3 := R.bs.ext E3
    have r3 := (r1.ext (R.bs.ext e1) e2).ext (R.bs.ext (e1.trans e2)) e3
    unfold slD at h3
    dsimp only at h3
    split at h3
    · rename_i l'
      obtain ⟨a, vs, e, hl, q⟩ := r3.lst
      exact .inl ⟨a, vs, e, .of hl, fun p hp => hq _ _ _ _ _ h3 (E3.trans (.same (same_new hp))) (R3.wsame (same_new hp)) (RepM.newL hp B3 (nmL_ok (Md.item_ok _)) (RepAll.nmL (cut_rep q _ _)))⟩
    · rename_i l'
      obtain ⟨a, vs, e, hl, q⟩ := r3.tup
      refine .inr ⟨a, vs, e, .of hl, fun hw => ?_, fun _ p hp => hq _ _ _ _ _ h3 (E3.trans (.same (same_new hp))) (R3.wsame (same_new hp)) (RepM.newT hp B3 (nmL_ok (Md.item_ok _)) (RepAll.nmL (cut_rep q _ _)))⟩
      refine hq _ _ _ _ _ h3 E3 wr3 (RepM.mk (nmL_ok (Md.item_ok _)) ⟨a, vs, rfl, hl, RepAll.nmL ?_⟩)
      have := cut_rep q l u
      have e2 : cutV vs l u = vs := sIx_whole hw
      rw [e2] at this
      exact this
    · exact h3.elim⟩⟩⟩
end
/-! ### dicts -/
def dlook : List Int → List D → Int → Option D
  | k :: ks, v :: vs, j => if k = j then some v else dlook ks vs j
  | _, _, _ => none
def dputV : List Int → List D → Int → D → List D
  | k :: ks, v :: vs, j, x => if k = j then x :: vs else v :: dputV ks vs j x
  | _, vs, _, x => vs ++ [x]
def dputK (ks : List Int) (j : Int) : List Int := if j ∈ ks then ks else ks ++ [j]
theorem look_rep {H : Hp} {O : Addr → Prop} (j : Int) : ∀ {ks : List Int} {ds : List D} {kvs : List (Key × V)}, kvs.map (·.1) = ks.map Sum.inl → RepAll H ds O (kvs.map (·.2)) →
    (dlook ks ds j = none ∧ valV kvs (Sum.inl j) = none) ∨ ∃ d v, dlook ks ds j = some d ∧ valV kvs (Sum.inl j) = some v ∧ Rep H d O v
  | [], ds, kvs, hk, r => by
    have e : kvs = [] := by cases kvs with | nil => rfl | cons _ _ => cases hk
    subst e
    exact .inl ⟨by unfold dlook; rfl, rfl⟩
  | k :: ks, ds, [], hk, r => by cases hk
  | k :: ks, [], p :: kvs, hk, r => by cases r
  | k :: ks, d :: ds, p :: kvs, hk, r => by
    obtain ⟨v, r', e, h, q⟩ := r
    rw [List.map_cons] at e
    obtain ⟨e1, e2⟩ := List.cons.inj e
    rw [List.map_cons, List.map_cons] at hk
    obtain ⟨hk1, hk2⟩ := List.cons.inj hk
    subst e1 e2
    by_cases hj : k = j
    · subst hj
      exact .inr ⟨d, p.2, by unfold dlook; rw [if_pos rfl], valV_pos hk1, h⟩
    · have hn : ¬ p.1 = Sum.inl j := fun z => hj (Sum.inl.inj (hk1.symm.trans z))
      rcases look_rep j hk2 q with ⟨h1, h2⟩ | ⟨d', v', h1, h2, h3⟩
      · exact .inl ⟨by unfold dlook; rw [if_neg hj]; exact h1, by rw [valV_neg hn]; exact h2⟩
      · exact .inr ⟨d', v', by unfold dlook; rw [if_neg hj]; exact h1, by rw [valV_neg hn]; exact h2, h3⟩
theorem any_inl (j : Int) : ∀ ks : List Int, (ks.any ((fun k : Key => decide (k = Sum.inl j)) ∘ Sum.inl)) = decide (j ∈ ks)
  | [] => by simp
  | k :: ks => by
    have ih := any_inl j ks
    rw [List.any_cons, ih]
    by_cases h : k = j
    · subst h; simp
    · have h' : ¬ j = k := fun z => h z.symm
      simp [h, h']
theorem putK_keys {kvs : List (Key × V)} (j : Int) (v : V) {ks : List Int} (hk : kvs.map (·.1) = ks.map Sum.inl) : (putK kvs (Sum.inl j) v).map (·.1) = (dputK ks j).map Sum.inl := by
  have any_iff : (kvs.any fun kv => decide (kv.1 = Sum.inl j)) = decide (j ∈ ks) := by
    have e : (kvs.any fun kv => decide (kv.1 = Sum.inl j)) = (kvs.map (·.1)).any fun k => decide (k = Sum.inl j) := by rw [List.any_map]; rfl
    rw [e, hk, List.any_map]
    exact any_inl j ks
  unfold putK dputK
  rw [any_iff]
  by_cases h : j ∈ ks
  · rw [decide_eq_true h, if_pos rfl, if_pos h, List.map_map, ← hk]
    apply List.map_congr_left
    intro p _
    show (if p.1 = Sum.inl j then (p.1, v) else p).1 = p.1
    split <;> rfl
  · rw [decide_eq_false h, if_neg Bool.false_ne_true, if_neg h, List.map_append, hk]
    simp
theorem putK_vals {H : Hp} {O : Addr → Prop} (j : Int) {v : V} {d : D} (hd : Rep H d O v) : ∀ {ks : List Int} {ds : List D} {kvs : List (Key × V)}, ks.Nodup → kvs.map (·.1) = ks.map Sum.inl → RepAll H ds O (kvs.map (·.2)) →
    RepAll H (dputV ks ds j d) O ((putK kvs (Sum.inl j) v).map (·.2))
  | [], ds, kvs, _, hk, r => by
    have e : kvs = [] := by cases kvs with | nil => rfl | cons _ _ => cases hk
    subst e
    cases ds with
    | nil => exact .one hd
    | cons _ _ => obtain ⟨_, _, e, _⟩ := r; cases e
  | k :: ks, ds, [], _, hk, r => by cases hk
  | k :: ks, [], p :: kvs, _, hk, r => by cases r
  | k :: ks, d' :: ds, p :: kvs, nd, hk, r => by
    obtain ⟨u, r', e, h, q⟩ := r
    rw [List.map_cons] at e
    obtain ⟨e1, e2⟩ := List.cons.inj e
    rw [List.map_cons, List.map_cons] at hk
    obtain ⟨hk1, hk2⟩ := List.cons.inj hk
    subst e1 e2
    obtain ⟨nd1, nd2⟩ := List.nodup_cons.mp nd
    by_cases hj : k = j
    · subst hj
      have e3 : putK (p :: kvs) (Sum.inl k) v = (p.1, v) :: kvs := by
        unfold putK
        rw [if_pos (by simp [hk1]), List.map_cons, if_pos hk1]
        congr 1
        refine (List.map_congr_left (g := id) fun z hz => ?_).trans (List.map_id _)
        have : z.1 ≠ Sum.inl k := fun q => by
          have hm : z.1 ∈ kvs.map (·.1) := List.mem_map_of_mem hz
          rw [hk2, q] at hm
          obtain ⟨k', h1, h2⟩ := List.mem_map.mp hm
          rw [Sum.inl.inj h2] at h1
          exact nd1 h1
        rw [if_neg this]; rfl
      rw [e3]
      unfold dputV
      rw [if_pos rfl]
      exact ⟨v, _, rfl, hd, q⟩
    · have hn : ¬ p.1 = Sum.inl j := fun z => hj (Sum.inl.inj (hk1.symm.trans z))
      have e3 : putK (p :: kvs) (Sum.inl j) v = p :: putK kvs (Sum.inl j) v := by
        unfold putK
        rw [List.any_cons, decide_eq_false hn, Bool.false_or]
        split
        · rw [List.map_cons, if_neg hn]
        · rfl
      rw [e3]
      unfold dputV
      rw [if_neg hj]
      exact ⟨_, _, rfl, h, putK_vals j hd nd2 hk2 q⟩
section
variable {X : Cx} {ω : Type} {C : Cn ω} {a b e : Expr} {ta tb te : EM C} {pos apos cpos : Pos}
def dgetF : F2 := fun p q K => match p.2, q.2 with
  | .dct ks vs, .int j => ∃ d, dlook ks vs j = some d ∧ K p.1.item d
  | _, _ => False
theorem vdget (hu : X.A.units + 1 < cLine) (ha : VE X C a ta) (hb : VE X C b tb) (hs : NoSl b) : VE X C (.Subscript a b pos) (binM dgetF ta tb) := PEimp (pe_dget hu ha hb hs) fun σ H Q ⟨Z, Γ, w, Q0, R, ht, hq⟩ =>
  ⟨Z, Γ, w, _, R, ht, fun m1 d1 w1 v1 H1 h1 e1 wr1 r1 => ⟨Z, Γ, w1, _, R.step e1 wr1, h1, fun m2 d2 w2 v2 H2 h2 e2 wr2 r2 => by
    have B2 := R.bs.ext (e1.trans e2)
    unfold dgetF at h2
    dsimp only at h2
    split at h2
    · rename_i ks vs j
      obtain ⟨d, h3, h4⟩ := h2
      obtain ⟨a, kvs, e, hl, hk, q⟩ := (r1.ext (R.bs.ext e1) e2).dct
      have ev : v2 = .int j := (r2.start e1.dom).any B2
      rcases look_rep j hk q with ⟨n1, _⟩ | ⟨d', v', n1, n2, n3⟩
      · rw [n1] at h3; cases h3
      · rw [n1] at h3; cases h3
        refine ⟨a, v', e, ?_, hq _ _ _ _ _ h4 (e1.trans e2) wr2 (RepM.mk (Md.item_ok _) n3)⟩
        rw [ev, ← n2]
        exact DGet.k (k := Sum.inl j) hl
    · exact h2.elim⟩⟩
/-- d.get(k, x) -/
def dget2M (ta tb te : EM C) : EM C := fun Γ w Q => ta Γ w fun m1 d1 w1 => ∃ ks vs, d1 = .dct ks vs ∧ tb Γ w1 fun m2 d2 w2 => te Γ w2 fun m3 d3 w3 => ∃ j, d2 = .int j ∧ match dlook ks vs j with | some d => Q m1.item d w3 | none => Q m3 d3 w3
theorem vdget2 (hu : X.A.units + 1 < cLine) (ha : VE X C a ta) (hb : VE X C b tb) (he : VE X C e te) (m : M2 X a "get" apos b e cpos) : VE X C (.Call (.Attribute a "get" apos) [b, e] [] cpos) (dget2M ta tb te) := PEimp (pe_dget2 hu ha hb he m) fun σ H Q ⟨Z, Γ, w, Q0, R, ht, hq⟩ =>
  ⟨Z, Γ, w, _, R, ht, fun m1 d1 w1 v1 H1 h1 e1 wr1 r1 => by
    obtain ⟨ks, vs, rfl, h1⟩ := h1
    obtain ⟨a, kvs, e, hl, hk, q⟩ := r1.dct
    refine ⟨a, e, .inl ⟨kvs, .inl hl⟩, Z, Γ, w1, _, R.step e1 wr1, h1, fun m2 d2 w2 v2 H2 h2 e2 wr2 r2 => ⟨Z, Γ, w2, _, (R.step e1 wr1).step e2 wr2, h2, fun m3 d3 w3 v3 H3 h3 e3 wr3 r3 => ?_⟩⟩
    obtain ⟨j, rfl, h3⟩ := h3
    have E3 := (e1.trans e2).trans e3
    have B3 := R.bs.ext E3
    obtain ⟨a', kvs', e', hl', hk', q'⟩ := (r1.ext (R.bs.ext e1) (e2.trans e3)).dct
    have ev : v2 = .int j := (r2.start e1.dom).any (R.bs.ext (e1.trans e2))
    rw [e] at e'; cases e'
    refine ⟨valV kvs' (Sum.inl j), by rw [ev]; exact DGet.k (k := Sum.inl j) hl', ?_⟩
    rcases look_rep j hk' q' with ⟨n1, n2⟩ | ⟨d', v', n1, n2, n3⟩
    · rw [n1] at h3
      rw [n2]
      exact hq _ _ _ _ _ h3 E3 wr3 (r3.start (e1.trans e2).dom)
    · rw [n1] at h3
      rw [n2]
      exact hq _ _ _ _ _ h3 E3 wr3 (RepM.mk (Md.item_ok _) n3)⟩
end
/-! ### what is walked -/
structure WalkD (O A : Addr → Prop) (H1 : Hp) (J : It) (ds : List D) : Prop where
  go : ∀ i H2, Ext O H1 H2 → i < ds.length → J.go i H2
  stop : ∀ H2, Ext O H1 H2 → J.stop ds.length H2
  yld : ∀ i H2 x H3, Ext O H1 H2 → i < ds.length → J.yld i H2 x H3 → Same H2 H3 ∧ ∃ d, ds[i]? = some d ∧ ∀ O' : Addr → Prop, (∀ b, H1 b ≠ none → O' b → A b) → Rep H3 d O' x
abbrev IM {ω : Type} (C : Cn ω) := List Sl → ω → (Md → List D → ω → Prop) → Prop
def lI {ω : Type} (C : Cn ω) (t : IM C) : TI := fun σ H R => ∃ Z Γ w Q0, Rel C Z Γ w σ H ∧ t Γ w Q0 ∧ ∀ md ds w' H' J, Q0 md ds w' → Ext C.W H H' → C.wr w' H' → WalkD C.W (Av C Z Γ σ H md.item) H' J ds → (md.ok = true → WalkD (Ow C Z Γ σ) (Av C Z Γ σ H md.item) H' J ds) → R J H'
abbrev VI (X : Cx) {ω : Type} (C : Cn ω) (tg e : Expr) (t : IM C) : Prop := PI X tg e (lI C t)
section
variable {ω : Type} {C : Cn ω} {Z : Addr → Prop} {Γ : List Sl} {σ : L2.St} {Hs H : Hp} {md : Md} {K : PySem.W.Frag}
theorem Av.w (b : Bs C Z Γ σ Hs H) {m : Md} {c : Addr} (h : C.W c) : Av C Z Γ σ Hs m c := by
  cases m with
  | F => exact b.sub c (.inl (.inl h))
  | PF => exact .inl (.inl h)
  | P => exact .inl h
  | B => exact .inl h
theorem Av.ow (b : Bs C Z Γ σ Hs H) {m : Md} {c : Addr} (h : Ow C Z Γ σ c) : Av C Z Γ σ Hs m c := by
  cases m with
  | F => exact b.sub c (.inl h)
  | PF => exact .inl h
  | P => exact h
  | B => exact h
theorem walk_lst {O A : Addr → Prop} {ds : List D} {vs : List V} {a : Addr} (ha : H a = some (.lst vs)) (r : RepAll H ds A vs) (hO : ¬ O a) (hOA : ∀ b, O b → A b) : WalkD O A H (Itl K a) ds := by
  have hw := walk_list (K := K) (a := a) (xs := vs)
  refine ⟨fun i H2 e hi => hw.goes i H2 (by rw [r.length]; exact hi) (.of (e.keep a _ ha hO)), fun H2 e => ?_, fun i H2 x H3 e hi y => ?_⟩
  · have := hw.stops H2 (.of (e.keep a _ ha hO))
    rw [r.length] at this
    exact this
  · obtain ⟨e1, e2⟩ := hw.yields i H2 x H3 (by rw [r.length]; exact hi) (.of (e.keep a _ ha hO)) y
    subst e1
    obtain ⟨d, h1, h2⟩ := r.getV e2
    exact ⟨fun _ _ h => h, d, h1, fun O' h => Rep.move d h2 (fun b hb z => h b hb z) (fun b o hb n => e.keep b o hb fun z => n (hOA b z)) e.tup⟩
theorem walk_tup' {O A : Addr → Prop} {ds : List D} {vs : List V} {a : Addr} (ha : H a = some (.tup vs)) (r : RepAll H ds A vs) (hOA : ∀ b, O b → A b) : WalkD O A H (Itt K a) ds := by
  have hw := walk_tup (K := K) (a := a) (xs := vs)
  refine ⟨fun i H2 e hi => hw.goes i H2 (by rw [r.length]; exact hi) (.of (e.tup a _ ha)), fun H2 e => ?_, fun i H2 x H3 e hi y => ?_⟩
  · have := hw.stops H2 (.of (e.tup a _ ha))
    rw [r.length] at this
    exact this
  · obtain ⟨e1, e2⟩ := hw.yields i H2 x H3 (by rw [r.length]; exact hi) (.of (e.tup a _ ha)) y
    subst e1
    obtain ⟨d, h1, h2⟩ := r.getV e2
    exact ⟨fun _ _ h => h, d, h1, fun O' h => Rep.move d h2 (fun b hb z => h b hb z) (fun b o hb n => e.keep b o hb fun z => n (hOA b z)) e.tup⟩
theorem RepM.own_of {d : D} {a : Addr} (r : RepM C Z Γ σ Hs H md d (.ref a)) (b : Bs C Z Γ σ Hs H) (hd : d.flat = false) (ht : ∀ l, d ≠ .tup l) : ¬ C.W a ∧ (md.ok = true → ¬ Ow C Z Γ σ a) := by
  have h1 := r.any b
  refine ⟨?_, fun hm => ?_⟩
  · cases d with
    | lst l => obtain ⟨_, e, n, _⟩ := h1; cases e; exact n
    | dct k l => obtain ⟨_, e, n, _⟩ := h1; cases e; exact n
    | fdc ps => obtain ⟨_, _, e, n, _⟩ := h1; cases e; exact n
    | ll a' bs => obtain ⟨e, n, _⟩ := h1; cases e; exact n
    | tup l => exact absurd rfl (ht l)
    | _ => cases hd
  · have h2 := r.P b hm
    cases d with
    | lst l => obtain ⟨_, e, n, _⟩ := h2; cases e; exact n
    | dct k l => obtain ⟨_, e, n, _⟩ := h2; cases e; exact n
    | fdc ps => obtain ⟨_, _, e, n, _⟩ := h2; cases e; exact n
    | ll a' bs => obtain ⟨e, n, _⟩ := h2; cases e; exact n
    | tup l => exact absurd rfl (ht l)
    | _ => cases hd
end
section
variable {X : Cx} {ω : Type} {C : Cn ω} {tg e : Expr} {te : EM C} {ts : AM C} {pos p : Pos}
def iterL (te : EM C) : IM C := fun Γ w Q => te Γ w fun md d w1 => ∃ ds, d = .lst ds ∧ Q md ds w1
def iterT (te : EM C) : IM C := fun Γ w Q => te Γ w fun md d w1 => ∃ ds, d = .tup ds ∧ Q md ds w1
theorem vi_list (he : VE X C e te) : VI X C tg e (iterL te) := PIimp (pi_list he) fun σ H Q ⟨Z, Γ, w, Q0, R, ht, hq⟩ => ⟨Z, Γ, w, _, R, ht, fun md d w1 v H1 h1 e1 wr1 r1 => by
  obtain ⟨ds, rfl, h1⟩ := h1
  obtain ⟨a, vs, rfl, hl, q⟩ := r1.lst
  have B := R.bs.ext e1
  have ho := r1.own_of B rfl (fun _ z => by cases z)
  exact ⟨a, rfl, ⟨vs, .of hl⟩, hq _ _ _ _ _ h1 e1 wr1 (walk_lst hl q ho.1 fun b z => Av.w B z) fun hm => walk_lst hl q (ho.2 hm) fun b z => Av.ow B z⟩⟩
theorem vi_tup (he : VE X C e te) : VI X C tg e (iterT te) := PIimp (pi_tup he) fun σ H Q ⟨Z, Γ, w, Q0, R, ht, hq⟩ => ⟨Z, Γ, w, _, R, ht, fun md d w1 v H1 h1 e1 wr1 r1 => by
  obtain ⟨ds, rfl, h1⟩ := h1
  obtain ⟨a, vs, rfl, hl, q⟩ := r1.tup
  have B := R.bs.ext e1
  exact ⟨a, rfl, ⟨vs, .of hl⟩, hq _ _ _ _ _ h1 e1 wr1 (walk_tup' hl q fun b z => Av.w B z) fun hm => walk_tup' hl q fun b z => Av.ow B z⟩⟩
/-- lo, .., hi - 1 -/
def rngD (lo hi : Int) : List D := (List.range (hi - lo).toNat).map fun (k : Nat) => .int (lo + (k : Int))
theorem walk_rng {O A : Addr → Prop} {H : Hp} (lo hi : Int) : WalkD O A H (Itr lo (hi - lo).toNat) (rngD lo hi) := by
  have hl : (rngD lo hi).length = (hi - lo).toNat := by simp [rngD]
  refine ⟨fun i H2 e hi' => by rw [hl] at hi'; exact hi', fun H2 e => by rw [hl]; exact Nat.le_refl _, fun i H2 x H3 e hi' y => ?_⟩
  obtain ⟨e1, e2⟩ := y
  subst e1 e2
  rw [hl] at hi'
  exact ⟨fun _ _ h => h, .int (lo + i), by simp [rngD, hi'], fun O' _ => rfl⟩
def iterR1 (ts : AM C) : IM C := fun Γ w Q => ts Γ w fun ps w1 => ∃ m j, ps = [(m, .int j)] ∧ -1000000 ≤ j ∧ j ≤ 1000000 ∧ Q .F (rngD 0 j) w1
def iterR2 (ts : AM C) : IM C := fun Γ w Q => ts Γ w fun ps w1 => ∃ m i m' j, ps = [(m, .int i), (m', .int j)] ∧ -1000000 ≤ i ∧ i ≤ 1000000 ∧ -1000000 ≤ j ∧ j ≤ 1000000 ∧ Q .F (rngD i j) w1
theorem vi_range1 (hm : X.mg "range" = none) (ha : VA X C [e] ts) (hg : Gl X "range" := by rfl) (hs : starEach [e] X.env = [(false, eval e X.env)] := by rfl) : VI X C tg (.Call (.Name "range" p) [e] [] pos) (iterR1 ts) :=
  PIimp (pi_range1 hg hm ha hs) fun σ H Q ⟨Z, Γ, w, Q0, R, ht, hq⟩ => ⟨Z, Γ, w, _, R, ht, fun ps w1 vs H1 h1 e1 wr1 r1 => by
    obtain ⟨m, j, rfl, h2, h3, h1⟩ := h1
    obtain ⟨v, rfl, r⟩ := r1.one
    have ev : v = .int j := r.any (R.bs.ext e1)
    subst ev
    refine ⟨j, rfl, by omega, by omega, ?_⟩
    have e0 : j.toNat = (j - 0).toNat := by rw [Int.sub_zero]
    rw [e0]
    exact hq _ _ _ _ _ h1 e1 wr1 (walk_rng 0 j) fun _ => walk_rng 0 j⟩
theorem vi_range2 {e2 : Expr} (hm : X.mg "range" = none) (ha : VA X C [e, e2] ts) (hg : Gl X "range" := by rfl) (hs : starEach [e, e2] X.env = [(false, eval e X.env), (false, eval e2 X.env)] := by rfl) (hs2 : starEach [e2] X.env = [(false, eval e2 X.env)] := by rfl) : VI X C tg (.Call (.Name "range" p) [e, e2] [] pos) (iterR2 ts) :=
  PIimp (pi_range2 hg hm ha hs hs2) fun σ H Q ⟨Z, Γ, w, Q0, R, ht, hq⟩ => ⟨Z, Γ, w, _, R, ht, fun ps w1 vs H1 h1 e1 wr1 r1 => by
    obtain ⟨m, i, m', j, rfl, h2, h3, h4, h5, h1⟩ := h1
    obtain ⟨v, u, rfl, r, r'⟩ := r1.two
    have ev : v = .int i := r.any (R.bs.ext e1)
    have eu : u = .int j := r'.any (R.bs.ext e1)
    subst ev eu
    exact ⟨i, j, rfl, ⟨by omega, by omega, by omega, by omega⟩, hq _ _ _ _ _ h1 e1 wr1 (walk_rng i j) fun _ => walk_rng i j⟩⟩
end
end VS

namespace VS
open PySem PySem.Spec PyProof.Rows L2
/-! ### the state goes on -/
structure Frm {ω : Type} (C : Cn ω) (Z : Addr → Prop) (Γ : List Sl) (σ : L2.St) (H : Hp) (Γ' : List Sl) (σ' : L2.St) (H' : Hp) : Prop where
  ext : Ext (Ow C Z Γ σ) H H'
  ow : ∀ b, Ow C Z Γ' σ' b → Ow C Z Γ σ b ∨ H b = none
section
variable {ω : Type} {C : Cn ω} {Z : Addr → Prop} {Γ Γ1 Γ2 : List Sl} {w w' : ω} {σ σ1 σ2 : L2.St} {H H' H1 H2 Hs : Hp} {d : D} {v : V} {i : Nat} {fr : Bool}
theorem Frm.refl : Frm C Z Γ σ H Γ σ H := ⟨.refl _ _, fun _ h => .inl h⟩
theorem Frm.trans (a : Frm C Z Γ σ H Γ1 σ1 H1) (b : Frm C Z Γ1 σ1 H1 Γ2 σ2 H2) : Frm C Z Γ σ H Γ2 σ2 H2 where
  ext := ⟨fun c h => b.ext.dom c (a.ext.dom c h), fun c o h n => b.ext.keep c o (a.ext.keep c o h n) (fun z => (a.ow c z).elim n (fun z => (by rw [h] at z; cases z))), fun c vs h => b.ext.tup c vs (a.ext.tup c vs h)⟩
  ow := fun c z => by
    rcases b.ow c z with z | z
    · exact a.ow c z
    · refine .inr ?_
      cases q : H c with
      | none => rfl
      | some o => exact absurd z (a.ext.dom c (by rw [q]; simp))
theorem Frm.of_ext (e : Ext C.W H H') : Frm C Z Γ σ H Γ σ H' := ⟨e.mono fun b z => .inl z, fun _ h => .inl h⟩
theorem ow_setVal {b : Addr} (hl : Γ.length = σ.length) (h : Ow C Z (Γ.set i (.val fr d)) (σ.set i (some v)) b) : Ow C Z Γ σ b := by
  rcases h with h | h | ⟨j, e, h1, h2⟩
  · exact .inl h
  · exact .inr (.inl h)
  · by_cases hj : j = i
    · subst hj
      by_cases hk : j < Γ.length
      · rw [List.getElem?_set_self hk] at h1; cases h1
      · rw [List.getElem?_eq_none (by simpa using hk)] at h1; cases h1
    · rw [List.getElem?_set_ne (Ne.symm hj)] at h1 h2
      exact .inr (.inr ⟨j, e, h1, h2⟩)
theorem Rel.setVal (R : Rel C Z Γ w σ H) (r : Rep H d (fun b => Ow C Z Γ σ b ∨ (fr = true ∧ C.A0 b)) v) : Rel C Z (Γ.set i (.val fr d)) w (σ.set i (some v)) H where
  len := by simp [R.len]
  wr := R.wr
  ext := R.ext
  zd := R.zd
  zn := R.zn
  dist := fun j k dj dk a h1 h2 h3 h4 => by
    have get : ∀ {m : Nat} {dm : D}, (Γ.set i (.val fr d))[m]? = some (.own dm) → (σ.set i (some v))[m]? = some (some (.ref a)) → Γ[m]? = some (.own dm) ∧ σ[m]? = some (some (.ref a)) := fun {m dm} q1 q2 => by
      by_cases hm : m = i
      · subst hm
        by_cases hk : m < Γ.length
        · rw [List.getElem?_set_self hk] at q1; cases q1
        · rw [List.getElem?_eq_none (by simpa using hk)] at q1; cases q1
      · rw [List.getElem?_set_ne (Ne.symm hm)] at q1 q2
        exact ⟨q1, q2⟩
    exact R.dist j k dj dk a (get h1 h3).1 (get h2 h4).1 (get h1 h3).2 (get h2 h4).2
  val := fun j fr' d' h => by
    by_cases hj : j = i
    · subst hj
      by_cases hk : j < Γ.length
      · rw [List.getElem?_set_self hk] at h
        cases h
        refine ⟨v, List.getElem?_set_self (by rw [← R.len]; exact hk), Rep.move _ r (fun b _ z => z.imp (ow_setVal R.len) id) (fun _ _ h _ => h) fun _ _ h => h⟩
      · rw [List.getElem?_eq_none (by simpa using hk)] at h; cases h
    · rw [List.getElem?_set_ne (Ne.symm hj)] at h
      obtain ⟨u, h1, h2⟩ := R.val j fr' d' h
      exact ⟨u, by rw [List.getElem?_set_ne (Ne.symm hj)]; exact h1, Rep.move _ h2 (fun b _ z => z.imp (ow_setVal R.len) id) (fun _ _ h _ => h) fun _ _ h => h⟩
  own := fun j d' h => by
    by_cases hj : j = i
    · subst hj
      by_cases hk : j < Γ.length
      · rw [List.getElem?_set_self hk] at h; cases h
      · rw [List.getElem?_eq_none (by simpa using hk)] at h; cases h
    · rw [List.getElem?_set_ne (Ne.symm hj)] at h
      obtain ⟨a, h1, h2, h3, h4, h5⟩ := R.own j d' h
      exact ⟨a, by rw [List.getElem?_set_ne (Ne.symm hj)]; exact h1, h2, h3, h4, h5.move (fun _ h => h) (fun b _ z => z.imp (ow_setVal R.len) id) (fun _ _ h _ => h) fun _ _ h => h⟩
theorem Frm.setVal (hl : Γ.length = σ.length) : Frm C Z Γ σ H (Γ.set i (.val fr d)) (σ.set i (some v)) H := ⟨.refl _ _, fun b h => .inl (ow_setVal hl h)⟩
def D.isC : D → Bool
  | .lst _ => true | .dct _ _ => true | _ => false
theorem Rep.top (hd : d.isC = true) {O : Addr → Prop} (r : Rep H d O v) : ∃ a, v = .ref a ∧ ¬ O a ∧ Top H d (fun b => O b ∨ b = a) a := by
  cases d with
  | lst l => obtain ⟨a, e, n, vs, h, q⟩ := r; exact ⟨a, e, n, vs, h, q⟩
  | dct k l => obtain ⟨a, e, n, vs, h, hk, q⟩ := r; exact ⟨a, e, n, vs, h, hk, q⟩
  | _ => cases hd
theorem ow_setOwn {a b : Addr} (hl : Γ.length = σ.length) (h : Ow C Z (Γ.set i (.own d)) (σ.set i (some (.ref a))) b) : Ow C Z Γ σ b ∨ b = a := by
  rcases h with h | h | ⟨j, e, h1, h2⟩
  · exact .inl (.inl h)
  · exact .inl (.inr (.inl h))
  · by_cases hj : j = i
    · subst hj
      by_cases hk : j < σ.length
      · rw [List.getElem?_set_self hk] at h2; cases h2; exact .inr rfl
      · rw [List.getElem?_eq_none (by simpa using hk)] at h2; cases h2
    · rw [List.getElem?_set_ne (Ne.symm hj)] at h1 h2
      exact .inl (.inr (.inr ⟨j, e, h1, h2⟩))
/-- a new list or dict is given to a name that owns it -/
theorem Rel.setOwn (R : Rel C Z Γ w σ Hs) (e : Ext C.W Hs H) (wr : C.wr w' H) (hd : d.isC = true) (r : RepM C Z Γ σ Hs H .F d v) : Rel C Z (Γ.set i (.own d)) w' (σ.set i (some v)) H ∧ Frm C Z Γ σ Hs (Γ.set i (.own d)) (σ.set i (some v)) H := by
  obtain ⟨a, rfl, hn, ht⟩ := Rep.top hd (r : Rep H d (fun b => Hs b ≠ none) v)
  have hn : Hs a = none := by cases q : Hs a with | none => rfl | some o => exact absurd (show Hs a ≠ none by rw [q]; simp) hn
  have nOw : ¬ Ow C Z Γ σ a := fun z => R.sub a (.inl z) hn
  have nA : ¬ C.A0 a := fun z => R.sub a (.inr z) hn
  have R1 := R.step e wr
  refine ⟨⟨by simp [R.len], wr, R1.ext, R1.zd, R1.zn, fun j k dj dk b h1 h2 h3 h4 => ?_, fun j fr' d' h => ?_, fun j d' h => ?_⟩, ⟨e.mono fun b z => .inl z, fun b h => (ow_setOwn R.len h).imp id fun z => by rw [z]; exact hn⟩⟩
  · have old : ∀ {m : Nat} {dm : D}, m ≠ i → (Γ.set i (.own d))[m]? = some (.own dm) → (σ.set i (some (.ref a)))[m]? = some (some (.ref b)) → Γ[m]? = some (.own dm) ∧ σ[m]? = some (some (.ref b)) := fun {m dm} hm q1 q2 => by
      rw [List.getElem?_set_ne (Ne.symm hm)] at q1 q2
      exact ⟨q1, q2⟩
    have new : ∀ {m : Nat}, m = i → (σ.set i (some (.ref a)))[m]? = some (some (.ref b)) → b = a := fun {m} hm q => by
      subst hm
      by_cases hk : m < σ.length
      · rw [List.getElem?_set_self hk] at q; cases q; rfl
      · rw [List.getElem?_eq_none (by simpa using hk)] at q; cases q
    by_cases hj : j = i
    · by_cases hk : k = i
      · rw [hj, hk]
      · have eb := new hj h3
        obtain ⟨q1, q2⟩ := old hk h2 h4
        rw [eb] at q2
        exact absurd (.inr (.inr ⟨k, _, q1, q2⟩)) nOw
    · by_cases hk : k = i
      · have eb := new hk h4
        obtain ⟨q1, q2⟩ := old hj h1 h3
        rw [eb] at q2
        exact absurd (.inr (.inr ⟨j, _, q1, q2⟩)) nOw
      · obtain ⟨q1, q2⟩ := old hj h1 h3
        obtain ⟨q3, q4⟩ := old hk h2 h4
        exact R.dist j k _ _ b q1 q3 q2 q4
  · by_cases hj : j = i
    · subst hj
      by_cases hk : j < Γ.length
      · rw [List.getElem?_set_self hk] at h; cases h
      · rw [List.getElem?_eq_none (by simpa using hk)] at h; cases h
    · rw [List.getElem?_set_ne (Ne.symm hj)] at h
      obtain ⟨u, h1, h2⟩ := R.val j fr' d' h
      refine ⟨u, by rw [List.getElem?_set_ne (Ne.symm hj)]; exact h1, Rep.move _ h2 (fun b hb z => ?_) (fun b o hb n => e.keep b o hb fun z => n (.inl (.inl z))) e.tup⟩
      rcases z with z | z
      · rcases ow_setOwn R.len z with z | z
        · exact .inl z
        · rw [z] at hb; exact absurd hn hb
      · exact .inr z
  · by_cases hj : j = i
    · subst hj
      have hk : j < Γ.length := by
        rcases Nat.lt_or_ge j Γ.length with hk | hk
        · exact hk
        · rw [List.getElem?_eq_none (by simpa using hk)] at h; cases h
      rw [List.getElem?_set_self hk] at h
      cases h
      refine ⟨a, List.getElem?_set_self (by rw [← R.len]; exact hk), ?_, fun z => nOw (.inl z), fun z => nOw (.inr (.inl z)), ht.move (fun _ h => h) (fun b hb z => ?_) (fun _ _ h _ => h) fun _ _ h => h⟩
      · cases q : C.H0 a with
        | none => rfl
        | some o => exact absurd hn (R.ext.dom a (by rw [q]; simp))
      · rcases z with z | z
        · rcases ow_setOwn R.len z with z | z
          · exact .inl (R.sub b (.inl z))
          · exact .inr z
        · exact .inl (R.sub b (.inr z))
    · rw [List.getElem?_set_ne (Ne.symm hj)] at h
      obtain ⟨a', h1, h2, h3, h4, h5⟩ := R.own j d' h
      refine ⟨a', by rw [List.getElem?_set_ne (Ne.symm hj)]; exact h1, h2, h3, h4, h5.move (fun o ho => e.keep a' o ho h3) (fun b hb z => ?_) (fun b o hb n => e.keep b o hb fun z => n (.inl (.inl z))) e.tup⟩
      rcases z with z | z
      · rcases ow_setOwn R.len z with z | z
        · exact .inl z
        · rw [z] at hb; exact absurd hn hb
      · exact .inr z
/-- the owned thing at a is changed -/
theorem Rel.mut {a : Addr} {o : HO} {d' : D} (R : Rel C Z Γ w σ H) (hΓ : Γ[i]? = some (.own d)) (hσ : σ[i]? = some (some (.ref a))) (hm : ∀ vs, H a ≠ some (.tup vs)) (ht : Top (upd H a o) d' (fun b => Ow C Z Γ σ b ∨ C.A0 b) a) :
    Rel C Z (Γ.set i (.own d')) w σ (upd H a o) ∧ Frm C Z Γ σ H (Γ.set i (.own d')) σ (upd H a o) := by
  obtain ⟨a', h1, h2, h3, h4, h5⟩ := R.own i d hΓ
  rw [hσ] at h1; cases h1
  have hi : i < Γ.length := (List.getElem?_eq_some_iff.mp hΓ).1
  have oa : Ow C Z Γ σ a := .inr (.inr ⟨i, d, hΓ, hσ⟩)
  have ne : ∀ b, ¬ Ow C Z Γ σ b → b ≠ a := fun b n z => n (by rw [z]; exact oa)
  have ow : ∀ b, Ow C Z (Γ.set i (.own d')) σ b → Ow C Z Γ σ b := fun b z => by
    rcases z with z | z | ⟨j, e, q1, q2⟩
    · exact .inl z
    · exact .inr (.inl z)
    · by_cases hj : j = i
      · subst hj
        exact .inr (.inr ⟨j, d, hΓ, q2⟩)
      · rw [List.getElem?_set_ne (Ne.symm hj)] at q1
        exact .inr (.inr ⟨j, e, q1, q2⟩)
  have tp : ∀ b vs, H b = some (.tup vs) → upd H a o b = some (.tup vs) := fun b vs h => by rw [upd_ne fun z => hm vs (by rw [← z]; exact h)]; exact h
  have ex : Ext (Ow C Z Γ σ) H (upd H a o) := ⟨fun b h => (by
      by_cases z : b = a
      · subst z; rw [upd_same]; simp
      · rw [upd_ne z]; exact h), fun b u h n => (by rw [upd_ne (ne b n)]; exact h), tp⟩
  refine ⟨⟨by simp [R.len], ?_, ?_, fun b z => ex.dom b (R.zd b z), R.zn, fun j k dj dk b q1 q2 q3 q4 => ?_, fun j fr' e q => ?_, fun j e q => ?_⟩, ⟨ex, fun b z => .inl (ow b z)⟩⟩
  · exact C.fr w H _ (fun b hb => upd_ne fun z => h3 (by rw [← z]; exact hb)) R.wr
  · exact ⟨fun b h => ex.dom b (R.ext.dom b h), fun b u h n => (by rw [upd_ne (ne_of_none h h2)]; exact R.ext.keep b u h n), fun b vs h => tp b vs (R.ext.tup b vs h)⟩
  · have old : ∀ {m : Nat} {dm : D}, (Γ.set i (.own d'))[m]? = some (.own dm) → ∃ dm', Γ[m]? = some (.own dm') := fun {m dm} q => by
      by_cases hm : m = i
      · subst hm; exact ⟨d, hΓ⟩
      · rw [List.getElem?_set_ne (Ne.symm hm)] at q; exact ⟨_, q⟩
    obtain ⟨_, p1⟩ := old q1
    obtain ⟨_, p2⟩ := old q2
    exact R.dist j k _ _ b p1 p2 q3 q4
  · by_cases hj : j = i
    · subst hj; rw [List.getElem?_set_self hi] at q; cases q
    · rw [List.getElem?_set_ne (Ne.symm hj)] at q
      obtain ⟨u, p1, p2⟩ := R.val j fr' e q
      exact ⟨u, p1, Rep.move _ p2 (fun b _ z => z.imp (ow b) id) (fun b u hb n => by rw [upd_ne (ne b fun z => n (.inl z))]; exact hb) tp⟩
  · by_cases hj : j = i
    · subst hj
      rw [List.getElem?_set_self hi] at q
      cases q
      exact ⟨a, hσ, h2, h3, h4, ht.move (fun _ h => h) (fun b _ z => z.imp (ow b) id) (fun _ _ h _ => h) fun _ _ h => h⟩
    · rw [List.getElem?_set_ne (Ne.symm hj)] at q
      obtain ⟨c, p1, p2, p3, p4, p5⟩ := R.own j e q
      have nc : c ≠ a := fun z => hj (R.dist j i _ _ a q hΓ (by rw [p1, z]) hσ)
      exact ⟨c, p1, p2, p3, p4, p5.move (fun u h => by rw [upd_ne nc]; exact h) (fun b _ z => z.imp (ow b) id) (fun b u hb n => by rw [upd_ne (ne b fun z => n (.inl z))]; exact hb) tp⟩
end
end VS

namespace VS
open PySem PySem.Spec PyProof.Rows L2
/-! ### a name gives up what it owns (it stays readable) -/
def frz (Γ : List Sl) (i : Nat) : List Sl := match Γ[i]? with
  | some (.own d) => Γ.set i (.val true d)
  | _ => Γ
section
variable {ω : Type} {C : Cn ω} {Z : Addr → Prop} {Γ Γ1 Γ2 : List Sl} {w w' : ω} {σ σ1 σ2 : L2.St} {H H' H1 H2 Hs : Hp} {d : D} {v : V} {i : Nat} {fr : Bool}
theorem ow_frz {b : Addr} (h : Ow C Z (Γ.set i (.val fr d)) σ b) : Ow C Z Γ σ b := by
  rcases h with h | h | ⟨j, e, h1, h2⟩
  · exact .inl h
  · exact .inr (.inl h)
  · by_cases hj : j = i
    · subst hj
      by_cases hk : j < Γ.length
      · rw [List.getElem?_set_self hk] at h1; cases h1
      · rw [List.getElem?_eq_none (by simpa using hk)] at h1; cases h1
    · rw [List.getElem?_set_ne (Ne.symm hj)] at h1
      exact .inr (.inr ⟨j, e, h1, h2⟩)
theorem set_self {α : Type} : ∀ {l : List α} {i : Nat} {x : α}, l[i]? = some x → l.set i x = l
  | [], _, _, h => rfl
  | a :: l, 0, x, h => by simp at h; subst h; rfl
  | a :: l, i + 1, x, h => by rw [List.set_cons_succ, set_self (by simpa using h)]
theorem Rel.frz (R : Rel C Z Γ w σ H) (i : Nat) : Rel C Z (VS.frz Γ i) w σ H ∧ Frm C Z Γ σ H (VS.frz Γ i) σ H := by
  unfold VS.frz
  split
  · rename_i d hΓ
    obtain ⟨a, h1, h2, h3, h4, h5⟩ := R.own i d hΓ
    have hi : i < Γ.length := (List.getElem?_eq_some_iff.mp hΓ).1
    have na : ¬ Ow C Z (Γ.set i (.val true d)) σ a := by
      rintro (z | z | ⟨j, e, q1, q2⟩)
      · exact h3 z
      · exact h4 z
      · by_cases hj : j = i
        · subst hj; rw [List.getElem?_set_self hi] at q1; cases q1
        · rw [List.getElem?_set_ne (Ne.symm hj)] at q1
          exact hj (R.dist j i _ _ a q1 hΓ q2 h1)
    have oa : Ow C Z Γ σ a := .inr (.inr ⟨i, d, hΓ, h1⟩)
    have nA : ¬ C.A0 a := fun z => C.hA a z h2
    refine ⟨⟨by simp [R.len], R.wr, R.ext, R.zd, R.zn, fun j k dj dk b q1 q2 q3 q4 => ?_, fun j fr' e q => ?_, fun j e q => ?_⟩, ⟨.refl _ _, fun b z => .inl (ow_frz z)⟩⟩
    · have old : ∀ {m : Nat} {dm : D}, (Γ.set i (.val true d))[m]? = some (.own dm) → Γ[m]? = some (.own dm) := fun {m dm} q => by
        by_cases hm : m = i
        · subst hm; rw [List.getElem?_set_self hi] at q; cases q
        · rw [List.getElem?_set_ne (Ne.symm hm)] at q; exact q
      exact R.dist j k _ _ b (old q1) (old q2) q3 q4
    · by_cases hj : j = i
      · subst hj
        rw [List.getElem?_set_self hi] at q
        cases q
        refine ⟨_, h1, Top.rep (h5.move (fun _ h => h) (fun b _ z => ?_) (fun _ _ h _ => h) fun _ _ h => h) (fun z => z.elim na fun z => nA z.2)⟩
        rcases z with (z | z) | z
        · exact .inl (ow_frz z)
        · exact .inr z.2
        · rw [z]; exact .inl oa
      · rw [List.getElem?_set_ne (Ne.symm hj)] at q
        obtain ⟨u, p1, p2⟩ := R.val j fr' e q
        exact ⟨u, p1, Rep.move _ p2 (fun b _ z => z.imp ow_frz id) (fun _ _ h _ => h) fun _ _ h => h⟩
    · by_cases hj : j = i
      · subst hj; rw [List.getElem?_set_self hi] at q; cases q
      · rw [List.getElem?_set_ne (Ne.symm hj)] at q
        obtain ⟨c, p1, p2, p3, p4, p5⟩ := R.own j e q
        exact ⟨c, p1, p2, p3, p4, p5.move (fun _ h => h) (fun b _ z => z.imp ow_frz id) (fun _ _ h _ => h) fun _ _ h => h⟩
  · exact ⟨R, .refl⟩
end
/-! ### targets -/
inductive Tg where
  | nm (i : Nat) | tp (is : List Nat)
def gNames (K : PySem.W.Frag) : List Nat → TGs
  | [] => gNil
  | i :: is => gCons (gName i) (gNames K is)
def Tg.g (K : PySem.W.Frag) : Tg → TG
  | .nm i => gName i
  | .tp is => gTup K is.length (gNames K is)
def Tg.slots : Tg → List Nat
  | .nm i => [i] | .tp is => is
def setAll (fr : Bool) : List Nat → List D → List Sl → List Sl
  | i :: is, d :: ds, Γ => setAll fr is ds (Γ.set i (.val (fr || d.flat) d))
  | _, _, Γ => Γ
def Tg.asg (fr : Bool) (d : D) (Γ : List Sl) (K : List Sl → Prop) : Tg → Prop
  | .nm i => K (Γ.set i (.val (fr || d.flat) d))
  | .tp is => ∃ ds, d = .tup ds ∧ ds.length = is.length ∧ K (setAll fr is ds Γ)
section
variable {ω : Type} {C : Cn ω} {Z : Addr → Prop} {Γ Γ1 Γ2 : List Sl} {w w' : ω} {σ σ1 σ2 : L2.St} {H H' H1 H2 Hs : Hp} {d : D} {v : V} {i : Nat} {fr : Bool} {K : PySem.W.Frag}
def setVs : List Nat → List V → L2.St → L2.St
  | i :: is, v :: vs, σ => setVs is vs (σ.set i (some v))
  | _, _, σ => σ
theorem rep_fl (r : Rep H d (fun b => Ow C Z Γ σ b ∨ (fr = true ∧ C.A0 b)) v) : Rep H d (fun b => Ow C Z Γ σ b ∨ ((fr || d.flat) = true ∧ C.A0 b)) v := by
  by_cases hd : d.flat = true
  · exact Rep.flat d hd r
  · rw [Bool.not_eq_true] at hd
    rw [hd, Bool.or_false]; exact r
theorem setAll_ok : ∀ (is : List Nat) {ds : List D} {vs : List V} {Γ : List Sl} {σ : L2.St}, Rel C Z Γ w σ H → RepAll H ds (fun b => Ow C Z Γ σ b ∨ (fr = true ∧ C.A0 b)) vs → ds.length = is.length →
    Rel C Z (setAll fr is ds Γ) w (setVs is vs σ) H ∧ Frm C Z Γ σ H (setAll fr is ds Γ) (setVs is vs σ) H
  | [], [], _, Γ, σ, R, r, _ => by cases r; exact ⟨R, .refl⟩
  | [], _ :: _, _, _, _, _, _, hl => by cases hl
  | _ :: _, [], _, _, _, _, _, hl => by cases hl
  | i :: is, d :: ds, _, Γ, σ, R, r, hl => by
    obtain ⟨v, vs, rfl, h, q⟩ := r
    have R1 := R.setVal (i := i) (rep_fl h)
    have F1 : Frm C Z Γ σ H (Γ.set i (.val (fr || d.flat) d)) (σ.set i (some v)) H := .setVal R.len
    obtain ⟨R2, F2⟩ := setAll_ok is R1 (RepAll.move ds q (fun b _ z => z.imp (ow_setVal R.len) id) (fun _ _ h _ => h) fun _ _ h => h) (by simpa using hl)
    exact ⟨R2, F1.trans F2⟩
theorem gNames_ok {Kp : L2.St → Hp → Prop} : ∀ (is : List Nat) {vs : List V} {σ : L2.St}, vs.length = is.length → Kp (setVs is vs σ) H → gNames K is vs σ H Kp
  | [], [], σ, _, h => ⟨rfl, h⟩
  | [], _ :: _, _, hl, _ => by cases hl
  | _ :: _, [], _, hl, _ => by cases hl
  | i :: is, v :: vs, σ, hl, h => ⟨v, vs, rfl, gNames_ok is (by simpa using hl) h⟩
theorem asg_ok (tg : Tg) {KΓ : List Sl → Prop} {Kσ : L2.St → Hp → Prop} (R : Rel C Z Γ w σ H) (r : Rep H d (fun b => Ow C Z Γ σ b ∨ (fr = true ∧ C.A0 b)) v) (h : tg.asg fr d Γ KΓ)
    (k : ∀ Γ' σ', KΓ Γ' → Rel C Z Γ' w σ' H → Frm C Z Γ σ H Γ' σ' H → (∃ vs, σ' = setVs tg.slots vs σ) → (∃ ds, Γ' = setAll fr tg.slots ds Γ) → Kσ σ' H) : tg.g K v σ H Kσ := by
  cases tg with
  | nm i => exact k _ _ h (R.setVal (rep_fl r)) (.setVal R.len) ⟨[v], rfl⟩ ⟨[d], rfl⟩
  | tp is =>
    obtain ⟨ds, rfl, hl, h⟩ := h
    obtain ⟨a, vs, rfl, ha, q⟩ := r
    obtain ⟨R2, F2⟩ := setAll_ok is R q hl
    exact ⟨a, vs, rfl, .of ha, by rw [q.length, hl], gNames_ok is (by rw [q.length, hl]) (k _ _ h R2 F2 ⟨vs, rfl⟩ ⟨ds, rfl⟩)⟩
end
/-! ### statements -/
structure EndM {ω : Type} (C : Cn ω) where
  nx : List Sl → ω → Prop
  rt : D → ω → Prop
  bk : List Sl → ω → Prop
  ct : List Sl → ω → Prop
abbrev SM {ω : Type} (C : Cn ω) := EndM C → List Sl → ω → Prop
structure Ok {ω : Type} (C : Cn ω) (Z : Addr → Prop) (Γ : List Sl) (σ : L2.St) (H : Hp) (E0 : EndM C) (Dn : Ends) : Prop where
  nx : ∀ Γ' w' σ' H', E0.nx Γ' w' → Rel C Z Γ' w' σ' H' → Frm C Z Γ σ H Γ' σ' H' → Dn.nx σ' H'
  bk : ∀ Γ' w' σ' H', E0.bk Γ' w' → Rel C Z Γ' w' σ' H' → Frm C Z Γ σ H Γ' σ' H' → Dn.bk σ' H'
  ct : ∀ Γ' w' σ' H', E0.ct Γ' w' → Rel C Z Γ' w' σ' H' → Frm C Z Γ σ H Γ' σ' H' → Dn.ct σ' H'
  rt : ∀ d w' v H', E0.rt d w' → Ext C.W C.H0 H' → C.wr w' H' → Rep H' d C.A0 v → Dn.rt v H'
def lS {ω : Type} (C : Cn ω) (t : SM C) : TS := fun D σ H => ∃ Z Γ w E0, Rel C Z Γ w σ H ∧ t E0 Γ w ∧ Ok C Z Γ σ H E0 D
abbrev VS1 (X : Cx) {ω : Type} (C : Cn ω) (st : Stmt) (t : SM C) : Prop := PS X st (lS C t)
abbrev VSs (X : Cx) {ω : Type} (C : Cn ω) (st : List Stmt) (t : SM C) : Prop := PSs X st (lS C t)
section
variable {X : Cx} {ω : Type} {C : Cn ω} {Z : Addr → Prop} {Γ Γ1 : List Sl} {σ σ1 : L2.St} {H H1 : Hp} {E0 : EndM C} {Dn : Ends}
theorem Ok.go (o : Ok C Z Γ σ H E0 Dn) (f : Frm C Z Γ σ H Γ1 σ1 H1) : Ok C Z Γ1 σ1 H1 E0 Dn :=
  ⟨fun Γ' w' σ' H' h r g => o.nx Γ' w' σ' H' h r (f.trans g), fun Γ' w' σ' H' h r g => o.bk Γ' w' σ' H' h r (f.trans g), fun Γ' w' σ' H' h r g => o.ct Γ' w' σ' H' h r (f.trans g), o.rt⟩
variable {st : Stmt} {rest body orelse : List Stmt} {t u : SM C} {e c : Expr} {te : EM C} {A : BM C} {pos : Pos}
def nextM : SM C := fun E Γ w => E.nx Γ w
def seqM (t u : SM C) : SM C := fun E Γ w => t { E with nx := fun Γ' w' => u E Γ' w' } Γ w
theorem vs0 : VSs X C [] nextM := PSsimp pss_nil fun D σ H ⟨Z, Γ, w, E0, R, ht, o⟩ => o.nx _ _ _ _ ht R .refl
theorem vs_cons (h1 : VS1 X C st t) (h2 : VSs X C rest u) : VSs X C (st :: rest) (seqM t u) := PSsimp (pss_cons h1 h2) fun D σ H ⟨Z, Γ, w, E0, R, ht, o⟩ =>
  ⟨Z, Γ, w, _, R, ht, ⟨fun Γ' w' σ' H' h r f => ⟨Z, Γ', w', E0, r, h, o.go f⟩, o.bk, o.ct, o.rt⟩⟩
theorem vs_one (h1 : VS1 X C st t) : VSs X C [st] t := pss_one h1
/-- a name is frozen ahead -/
def frzM (i : Nat) (t : SM C) : SM C := fun E Γ w => t E (frz Γ i) w
theorem vfrz (i : Nat) (h : VS1 X C st t) : VS1 X C st (frzM i t) := PSimp h fun D σ H ⟨Z, Γ, w, E0, R, ht, o⟩ => ⟨Z, _, w, E0, (R.frz i).1, ht, o.go (R.frz i).2⟩
theorem vpass : VS1 X C (.Pass pos) nextM := PSimp ps_pass fun D σ H ⟨Z, Γ, w, E0, R, ht, o⟩ => o.nx _ _ _ _ ht R .refl
def brkM : SM C := fun E Γ w => E.bk Γ w
def contM : SM C := fun E Γ w => E.ct Γ w
theorem vbrk : VS1 X C (.Break pos) brkM := PSimp ps_break fun D σ H ⟨Z, Γ, w, E0, R, ht, o⟩ => o.bk _ _ _ _ ht R .refl
theorem vcont : VS1 X C (.Continue pos) contM := PSimp ps_continue fun D σ H ⟨Z, Γ, w, E0, R, ht, o⟩ => o.ct _ _ _ _ ht R .refl
def nvM : SM C := fun _ _ _ => False
theorem vnever : VS1 X C st nvM := PSimp ps_never fun D σ H ⟨Z, Γ, w, E0, R, ht, o⟩ => ht
def dropM (te : EM C) : SM C := fun E Γ w => te Γ w fun _ _ w1 => E.nx Γ w1
theorem vexpr (he : VE X C e te) (hs : swapsWith e none pos.line X.env = pure false := by rfl) : VS1 X C (.Expr e pos) (dropM te) := PSimp (ps_expr he hs) fun D σ H ⟨Z, Γ, w, E0, R, ht, o⟩ =>
  ⟨Z, Γ, w, _, R, ht, fun md d w1 v H1 h1 e1 wr1 r1 => o.nx _ _ _ _ h1 (R.step e1 wr1) (.of_ext e1)⟩
def retM (te : EM C) : SM C := fun E Γ w => te Γ w fun md d w1 => md.ok = true ∧ (md.fr || d.flat) = true ∧ E.rt d w1
theorem vret (he : VE X C e te) : VS1 X C (.Return (some e) pos) (retM te) := PSimp (ps_ret he) fun D σ H ⟨Z, Γ, w, E0, R, ht, o⟩ =>
  ⟨Z, Γ, w, _, R, ht, fun md d w1 v H1 h1 e1 wr1 r1 => o.rt _ _ _ _ h1.2.2 (R.ext.trans e1) wr1 (Rep.move d (r1.PF (R.bs.ext e1) h1.1 h1.2.1) (fun b _ z => .inr z) (fun _ _ h _ => h) fun _ _ h => h)⟩
def ifM (A : BM C) (t u : SM C) : SM C := fun E Γ w => A Γ w fun k w1 => if k = true then t E Γ w1 else u E Γ w1
theorem vif (hc : VT X C c A) (ha : VSs X C body t) (hb : VSs X C orelse u) : VS1 X C (.If c body orelse pos) (ifM A t u) := PSimp (ps_if hc ha hb) fun D σ H ⟨Z, Γ, w, E0, R, ht, o⟩ =>
  ⟨Z, Γ, w, _, R, ht, fun k w1 H1 h1 e1 wr1 => by
    cases k with
    | true => rw [if_pos rfl] at h1 ⊢; exact ⟨Z, Γ, w1, E0, R.step e1 wr1, h1, o.go (.of_ext e1)⟩
    | false => rw [if_neg Bool.false_ne_true] at h1 ⊢; exact ⟨Z, Γ, w1, E0, R.step e1 wr1, h1, o.go (.of_ext e1)⟩⟩
/-- targets = e -/
def asgM (tg : Tg) (te : EM C) : SM C := fun E Γ w => te Γ w fun md d w1 => md.ok = true ∧ tg.asg (md.fr) d Γ fun Γ' => E.nx Γ' w1
theorem vasg (tg : Tg) (hp : PS X st (tAsg (lE C te) (tg.g X.K))) : VS1 X C st (asgM tg te) :=
  PSimp hp fun D σ H ⟨Z, Γ, w, E0, R, ht, o⟩ => ⟨Z, Γ, w, _, R, ht, fun md d w1 v H1 h1 e1 wr1 r1 => by
    refine asg_ok tg (R.step e1 wr1) (fr := md.fr) ?_ h1.2 fun Γ' σ' h r f _ _ => o.nx _ _ _ _ h r ((Frm.of_ext e1).trans f)
    have := r1.val (R.bs.ext e1) h1.1
    cases hf : md.fr with
    | true => exact Rep.move d (r1.PF (R.bs.ext e1) h1.1 (by rw [hf]; rfl)) (fun b _ z => z.imp id And.right) (fun _ _ h _ => h) fun _ _ h => h
    | false => exact Rep.move d (r1.P (R.bs.ext e1) h1.1) (fun b _ z => z.elim id fun z => by cases z.1) (fun _ _ h _ => h) fun _ _ h => h⟩
/-- x = a new list or dict, which x owns -/
def ownM (i : Nat) (te : EM C) : SM C := fun E Γ w => te Γ w fun md d w1 => md = .F ∧ d.isC = true ∧ E.nx (Γ.set i (.own d)) w1
theorem vown (i : Nat) (hp : PS X st (tAsg (lE C te) (gName i))) : VS1 X C st (ownM i te) := PSimp hp fun D σ H h => by
  obtain ⟨Z, Γ, w, E0, R, ht, o⟩ := h
  refine ⟨Z, Γ, w, _, R, ht, fun md d w1 v H1 h1 e1 wr1 r1 => ?_⟩
  obtain ⟨rfl, hd, h1⟩ := h1
  obtain ⟨R1, F1⟩ := R.setOwn (i := i) e1 wr1 hd r1
  exact o.nx _ _ _ _ h1 R1 F1
theorem own_lst {Z : Addr → Prop} {Γ : List Sl} {w : ω} {σ : L2.St} {H : Hp} {x : Nat} {l : List D} (R : Rel C Z Γ w σ H) (h : Γ[x]? = some (.own (.lst l))) : ∃ a vs, σ[x]? = some (some (.ref a)) ∧ H a = some (.lst vs) ∧ RepAll H l (fun b => Ow C Z Γ σ b ∨ C.A0 b) vs ∧ Ow C Z Γ σ a := by
  obtain ⟨a, h1, h2, h3, h4, vs, h5, h6⟩ := R.own x _ h
  exact ⟨a, vs, h1, h5, h6, .inr (.inr ⟨x, _, h, h1⟩)⟩
theorem own_dct {Z : Addr → Prop} {Γ : List Sl} {w : ω} {σ : L2.St} {H : Hp} {x : Nat} {ks : List Int} {l : List D} (R : Rel C Z Γ w σ H) (h : Γ[x]? = some (.own (.dct ks l))) : ∃ a kvs, σ[x]? = some (some (.ref a)) ∧ H a = some (.dK kvs) ∧ kvs.map (·.1) = ks.map Sum.inl ∧ RepAll H l (fun b => Ow C Z Γ σ b ∨ C.A0 b) (kvs.map (·.2)) ∧ Ow C Z Γ σ a := by
  obtain ⟨a, h1, h2, h3, h4, vs, h5, h6, h7⟩ := R.own x _ h
  exact ⟨a, vs, h1, h5, h6, h7, .inr (.inr ⟨x, _, h, h1⟩)⟩
theorem upd_rep {Z : Addr → Prop} {Γ : List Sl} {σ : L2.St} {H : Hp} {a : Addr} {o : HO} {l : List D} {vs : List V} (hm : ∀ vs, H a ≠ some (.tup vs)) (oa : Ow C Z Γ σ a) (r : RepAll H l (fun b => Ow C Z Γ σ b ∨ C.A0 b) vs) : RepAll (upd H a o) l (fun b => Ow C Z Γ σ b ∨ C.A0 b) vs :=
  RepAll.move l r (fun _ _ z => z) (fun b u hb n => by rw [upd_ne fun z => n (.inl (by rw [z]; exact oa))]; exact hb) fun b us hb => by rw [upd_ne fun z => hm us (by rw [← z]; exact hb)]; exact hb
/-- x[k] = e, x an owned list -/
def setM (x : Nat) (ti te : EM C) : SM C := fun E Γ w => te Γ w fun md d w1 => md.ok = true ∧ (md.fr || d.flat) = true ∧ ∃ l, Γ[x]? = some (.own (.lst l)) ∧ ti Γ w1 fun _ k w2 => ∃ i j, k = .int i ∧ ixN l.length i = some j ∧ E.nx (Γ.set x (.own (.lst (l.set j d)))) w2
theorem vset {ti : EM C} (x : Nat) (hp : PS X st (tAsg (lE C te) (gSub (tVar x) (lE C ti) rSetL))) : VS1 X C st (setM x ti te) :=
  PSimp hp fun D σ H ⟨Z, Γ, w, E0, R, ht, o⟩ => ⟨Z, Γ, w, _, R, ht, fun md d w1 v H1 h1 e1 wr1 r1 => by
    obtain ⟨hm, hf, l, hΓ, h1⟩ := h1
    have R1 := R.step e1 wr1
    obtain ⟨a, vs, ha, hl, q, oa⟩ := own_lst R1 hΓ
    refine ⟨_, ha, Z, Γ, w1, _, R1, h1, fun m2 k w2 v2 H2 h2 e2 wr2 r2 => ?_⟩
    obtain ⟨i, j, rfl, hj, h2⟩ := h2
    have R2 := R1.step e2 wr2
    obtain ⟨a', vs', ha', hl', q', oa'⟩ := own_lst R2 hΓ
    rw [ha] at ha'; cases ha'
    have ev : v2 = .int i := (r2.start e1.dom).any (R.bs.ext (e1.trans e2))
    refine ⟨a, vs', i, j, rfl, ev, hl', by rw [q'.length]; exact hj, ?_⟩
    have nt : ∀ us, H2 a ≠ some (.tup us) := fun us z => by rw [hl'] at z; cases z
    have rv : Rep H2 d (fun b => Ow C Z Γ σ b ∨ C.A0 b) v := RepM.PF (r1.ext (R.bs.ext e1) e2) (R.bs.ext (e1.trans e2)) hm hf
    obtain ⟨R3, F3⟩ := R2.mut (o := .lst (vs'.set j v)) (d' := .lst (l.set j d)) hΓ ha nt ⟨_, upd_same, upd_rep nt oa' (q'.set j rv)⟩
    exact o.nx _ _ _ _ h2 R3 ((Frm.of_ext (e1.trans e2)).trans F3)⟩
/-- x.append(e) -/
def appM (x : Nat) (te : EM C) : SM C := fun E Γ w => ∃ l, Γ[x]? = some (.own (.lst l)) ∧ l.length < 1000000 ∧ te Γ w fun md d w1 => md.ok = true ∧ (md.fr || d.flat) = true ∧ E.nx (Γ.set x (.own (.lst (l ++ [d])))) w1
theorem vapp (x : Nat) (hp : PS X st (tDrop (tBM X.K "list" rAppend (tVar x) (lA C (consA te nilA))))) : VS1 X C st (appM x te) :=
  PSimp hp fun D σ H ⟨Z, Γ, w, E0, R, ht, o⟩ => by
    obtain ⟨l, hΓ, hlen, ht⟩ := ht
    obtain ⟨a, vs, ha, hl, q, oa⟩ := own_lst R hΓ
    refine ⟨_, ha, .inl ⟨rfl, _, SqL.of hl⟩, Z, Γ, w, (fun ps w1 => match ps with | [(md, d)] => md.ok = true ∧ (md.fr || d.flat) = true ∧ E0.nx (Γ.set x (.own (.lst (l ++ [d])))) w1 | _ => False), R, ht, fun ps w1 us H1 h1 e1 wr1 r1 => ?_⟩
    dsimp only at h1
    split at h1
    · rename_i md d
      obtain ⟨hm, hf, h1⟩ := h1
      obtain ⟨v, rfl, rx⟩ := r1.one
      have R1 := R.step e1 wr1
      obtain ⟨a', vs', ha', hl', q', oa'⟩ := own_lst R1 hΓ
      rw [ha] at ha'; cases ha'
      refine ⟨a, vs', v, rfl, rfl, hl', by rw [q'.length]; exact Nat.lt_of_lt_of_le hlen (by rw [sizeLine_eq]; decide), ?_⟩
      have nt : ∀ us, H1 a ≠ some (.tup us) := fun us z => by rw [hl'] at z; cases z
      obtain ⟨R3, F3⟩ := R1.mut (o := .lst (vs' ++ [v])) (d' := .lst (l ++ [d])) hΓ ha nt ⟨_, upd_same, upd_rep nt oa' (q'.append (.one (RepM.PF rx (R.bs.ext e1) hm hf)))⟩
      exact o.nx _ _ _ _ h1 R3 ((Frm.of_ext e1).trans F3)
    · exact h1.elim
/-- x[k] = e, x an owned dict -/
def dsetM (x : Nat) (ti te : EM C) : SM C := fun E Γ w => te Γ w fun md d w1 => md.ok = true ∧ (md.fr || d.flat) = true ∧ ∃ ks l, Γ[x]? = some (.own (.dct ks l)) ∧ ti Γ w1 fun _ k w2 => ∃ j, k = .int j ∧ ks.Nodup ∧ ks.length < 1000000 ∧ E.nx (Γ.set x (.own (.dct (dputK ks j) (dputV ks l j d)))) w2
theorem vdset {ti : EM C} (x : Nat) (hp : PS X st (sDPut (tVar x) (lE C ti) (lE C te))) : VS1 X C st (dsetM x ti te) :=
  PSimp hp fun D σ H ⟨Z, Γ, w, E0, R, ht, o⟩ => ⟨Z, Γ, w, _, R, ht, fun md d w1 v H1 h1 e1 wr1 r1 => by
    obtain ⟨hm, hf, ks, l, hΓ, h1⟩ := h1
    have R1 := R.step e1 wr1
    obtain ⟨a, kvs, ha, hl, hk, q, oa⟩ := own_dct R1 hΓ
    refine ⟨_, ha, Z, Γ, w1, _, R1, h1, fun m2 k w2 v2 H2 h2 e2 wr2 r2 => ?_⟩
    obtain ⟨j, rfl, nd, hlen, h2⟩ := h2
    have R2 := R1.step e2 wr2
    obtain ⟨a', kvs', ha', hl', hk', q', oa'⟩ := own_dct R2 hΓ
    rw [ha] at ha'; cases ha'
    have ev : v2 = .int j := (r2.start e1.dom).any (R.bs.ext (e1.trans e2))
    subst ev
    have hz : kvs'.length < sizeLine := by
      have : (kvs'.map (·.1)).length = (ks.map (Sum.inl (β := Str))).length := by rw [hk']
      rw [List.length_map, List.length_map] at this
      rw [this, sizeLine_eq]; omega
    refine ⟨a, _, rfl, DPut.k (k := Sum.inl j) hl' hz, ?_⟩
    have nt : ∀ us, H2 a ≠ some (.tup us) := fun us z => by rw [hl'] at z; cases z
    have rv : Rep H2 d (fun b => Ow C Z Γ σ b ∨ C.A0 b) v := RepM.PF (r1.ext (R.bs.ext e1) e2) (R.bs.ext (e1.trans e2)) hm hf
    obtain ⟨R3, F3⟩ := R2.mut (o := .dK (putK kvs' (Sum.inl j) v)) (d' := .dct (dputK ks j) (dputV ks l j d)) hΓ ha nt ⟨_, upd_same, putK_keys j v hk', upd_rep nt oa' (putK_vals j rv nd hk' q')⟩
    exact o.nx _ _ _ _ h2 R3 ((Frm.of_ext (e1.trans e2)).trans F3)⟩
/-! ### while, for -/
def whileM (c : BM C) (t : SM C) : SM C := fun E Γ w => ∃ I : Nat → List Sl → ω → Prop, (∃ m, I m Γ w) ∧ ∀ m Γ w, I m Γ w →
  c Γ w fun b w1 => if b = true then t { E with nx := fun Γ' w' => ∃ m', m' < m ∧ I m' Γ' w', ct := fun Γ' w' => ∃ m', m' < m ∧ I m' Γ' w', bk := E.nx } Γ w1 else E.nx Γ w1
theorem vwhile {c : Expr} {tc : BM C} (hp : PassesOwn (model X.prog X.w) X.A X.env X.xe) (hc : VT X C c tc) (hb : VSs X C body t) : VS1 X C (.While c body [] pos) (whileM tc t) :=
  PSimp (ps_while hp hc hb) fun D σ H ⟨Z, Γ, w, E0, R, ⟨I, ⟨m0, h0⟩, ht⟩, o⟩ => by
    refine ⟨fun m σ1 H1 => ∃ Γ1 w1, Rel C Z Γ1 w1 σ1 H1 ∧ Frm C Z Γ σ H Γ1 σ1 H1 ∧ I m Γ1 w1, ⟨m0, Γ, w, R, .refl, h0⟩, ?_⟩
    rintro m σ1 H1 ⟨Γ1, w1, R1, F1, h1⟩
    refine ⟨Z, Γ1, w1, _, R1, ht m Γ1 w1 h1, fun b w2 H2 h2 e2 wr2 => ?_⟩
    have R2 := R1.step e2 wr2
    have F2 := F1.trans (.of_ext e2)
    dsimp only at h2 ⊢
    cases b with
    | true =>
      rw [if_pos rfl] at h2 ⊢
      refine ⟨fun σ' H' => ∃ m', m' < m ∧ ∃ Γ1 w1, Rel C Z Γ1 w1 σ' H' ∧ Frm C Z Γ σ H Γ1 σ' H' ∧ I m' Γ1 w1, fun σ' H' h => h, Z, Γ1, w2, _, R2, h2, ⟨fun Γ' w' σ' H' ⟨m', hm, h⟩ r f => ?_, fun Γ' w' σ' H' h r f => ?_, fun Γ' w' σ' H' ⟨m', hm, h⟩ r f => ?_, o.rt⟩⟩
      · exact ⟨m', hm, Γ', w', r, F2.trans f, h⟩
      · exact o.nx _ _ _ _ h r (F2.trans f)
      · exact ⟨m', hm, Γ', w', r, F2.trans f, h⟩
    | false =>
      rw [if_neg Bool.false_ne_true] at h2 ⊢
      exact o.nx _ _ _ _ h2 R2 F2
def loopM (tg : Tg) (fr : Bool) (t : SM C) (E : EndM C) : List D → List Sl → ω → Prop
  | [], Γ, w => E.nx Γ w
  | d :: ds, Γ, w => tg.asg fr d Γ fun Γ' => t { E with nx := loopM tg fr t E ds, ct := loopM tg fr t E ds, bk := E.nx } Γ' w
def forM (tg : Tg) (it : IM C) (t : SM C) : SM C := fun E Γ w => it Γ w fun md ds w1 => md.ok = true ∧ loopM tg md.fr t E ds Γ w1
theorem vfor {tge iter : Expr} {it : IM C} (tg : Tg) (hp : PassesOwn (model X.prog X.w) X.A X.env X.xe) (hc : X.calm = true) (hi : VI X C tge iter it) (hg : PG X tge (tg.g X.K)) (hb : VSs X C body t)
    (hs : ∀ x, foldedSetIterable iter X.env x = pure x := by intro _; rfl) : VS1 X C (.For tge iter body [] pos) (forM tg it t) :=
  PSimp (ps_for hp hc hi hg hb hs) fun D σ H ⟨Z, Γ, w, E0, R, ht, o⟩ => ⟨Z, Γ, w, _, R, ht, fun md ds w1 H1 J h1 e1 wr1 _ W2 => by
    obtain ⟨hm, h1⟩ := h1
    have W := W2 hm
    have R1 := R.step e1 wr1
    have B1 := R.bs.ext e1
    have ei : md.item = md := by cases md <;> first | rfl | cases hm
    rw [ei] at W
    refine ⟨fun i m σ' H' => m = ds.length - i ∧ i ≤ ds.length ∧ ∃ Γ' w', Rel C Z Γ' w' σ' H' ∧ Frm C Z Γ σ H1 Γ' σ' H' ∧ loopM tg md.fr t E0 (ds.drop i) Γ' w', ⟨_, rfl, Nat.zero_le _, Γ, w1, R1, .refl, h1⟩, ?_⟩
    rintro i m σ2 H2 ⟨rfl, hi, Γ2, w2, R2, F2, h2⟩
    by_cases hlt : i < ds.length
    · refine .inr ⟨W.go i H2 F2.ext hlt, fun σ' H' => i + 1 ≤ ds.length ∧ ∃ Γ' w', Rel C Z Γ' w' σ' H' ∧ Frm C Z Γ σ H1 Γ' σ' H' ∧ loopM tg md.fr t E0 (ds.drop (i + 1)) Γ' w', fun σ' H' ⟨q1, q2⟩ => ⟨ds.length - (i + 1), by omega, rfl, q1, q2⟩, fun x H3 hy => ?_⟩
      obtain ⟨g3, d, hd, hr⟩ := W.yld i H2 x H3 F2.ext hlt hy
      have e : ds.drop i = d :: ds.drop (i + 1) := by
        rw [List.drop_eq_getElem_cons hlt]
        rw [List.getElem?_eq_getElem hlt] at hd
        cases hd; rfl
      rw [e] at h2
      have R3 := R2.grow g3
      have F3 : Frm C Z Γ σ H1 Γ2 σ2 H3 := F2.trans (.of_ext (.same g3))
      have rd : Rep H3 d (fun b => Ow C Z Γ2 σ2 b ∨ (md.fr = true ∧ C.A0 b)) x := hr _ fun b hb z => by
        rcases z with z | ⟨z1, z2⟩
        · rcases F3.ow b z with z | z
          · exact Av.ow B1 z
          · exact absurd z hb
        · cases md with
          | F => exact R.sub b (.inr z2)
          | PF => exact .inr z2
          | P => cases z1
          | B => cases hm
      refine asg_ok tg R3 rd h2 fun Γ4 σ4 h4 R4 F4 _ _ => ⟨Z, Γ4, w2, _, R4, h4, ⟨fun Γ' w' σ' H' h r f => ?_, fun Γ' w' σ' H' h r f => ?_, fun Γ' w' σ' H' h r f => ?_, o.rt⟩⟩
      · exact ⟨hlt, Γ', w', r, (F3.trans F4).trans f, h⟩
      · exact o.nx _ _ _ _ h r ((Frm.of_ext e1).trans ((F3.trans F4).trans f))
      · exact ⟨hlt, Γ', w', r, (F3.trans F4).trans f, h⟩
    · have e : i = ds.length := by omega
      subst e
      rw [List.drop_length] at h2
      exact .inl ⟨W.stop H2 F2.ext, o.nx _ _ _ _ h2 R2 ((Frm.of_ext e1).trans F2)⟩⟩
end
end VS

namespace VS
open PySem PySem.Spec PyProof.Rows L2
/-! ### comprehensions -/
def wipeG (Γ : List Sl) : List Nat → List Sl
  | [] => Γ
  | v :: vs => (wipeG Γ vs).set v .no
def notOwn (Γ : List Sl) (i : Nat) : Bool := match Γ[i]? with | some (.own _) => false | _ => true
def lcLoop {ω : Type} {C : Cn ω} (tg : Tg) (fr : Bool) (tt : BM C) (te : EM C) (Γ : List Sl) (K : Md → List D → ω → Prop) : List D → ω → Md → List D → Prop
  | [], w, m, acc => K m acc w
  | d :: ds, w, m, acc => tg.asg fr d Γ fun Γ' => tt Γ' w fun b w1 => if b = true then te Γ' w1 fun md e w2 => md.ok = true ∧ acc.length < 1000000 ∧ lcLoop tg fr tt te Γ K ds w2 (m.max (nm md e)) (acc ++ [e]) else lcLoop tg fr tt te Γ K ds w1 m acc
def lcM {ω : Type} {C : Cn ω} (tg : Tg) (it : IM C) (tt : BM C) (te : EM C) (vs : List Nat) : EM C := fun Γ w Q => it Γ w fun md ds w1 => vs.all (notOwn Γ) = true ∧ lcLoop tg md.item.fr tt te (wipeG Γ vs) (fun m acc w2 => Q m (.lst acc) w2) ds w1 .F []
section
variable {X : Cx} {ω : Type} {C : Cn ω} {Z : Addr → Prop} {Γ : List Sl} {w : ω} {σ : L2.St} {H Hs : Hp}
theorem wipeG_get : ∀ {vs : List Nat} {i : Nat} {s : Sl}, (wipeG Γ vs)[i]? = some s → s = .no ∨ (Γ[i]? = some s ∧ i ∉ vs)
  | [], _, _, h => .inr ⟨h, by simp⟩
  | v :: vs, i, s, h => by
    unfold wipeG at h
    by_cases hv : v = i
    · subst hv
      by_cases hk : v < (wipeG Γ vs).length
      · rw [List.getElem?_set_self hk] at h; cases h; exact .inl rfl
      · rw [List.getElem?_eq_none (by simpa using hk)] at h; cases h
    · rw [List.getElem?_set_ne hv] at h
      rcases wipeG_get h with h | ⟨h1, h2⟩
      · exact .inl h
      · exact .inr ⟨h1, by simp only [List.mem_cons, not_or]; exact ⟨fun e => hv e.symm, h2⟩⟩
theorem wipeG_out : ∀ {vs : List Nat} {i : Nat}, i ∉ vs → (wipeG Γ vs)[i]? = Γ[i]?
  | [], _, _ => rfl
  | v :: vs, i, h => by
    simp only [List.mem_cons, not_or] at h
    unfold wipeG
    rw [List.getElem?_set_ne fun e => h.1 e.symm]
    exact wipeG_out h.2
theorem wipeG_length : ∀ (vs : List Nat), (wipeG Γ vs).length = Γ.length
  | [] => rfl
  | v :: vs => by unfold wipeG; rw [List.length_set, wipeG_length vs]
theorem ow_wipe {vs : List Nat} {Z' : Addr → Prop} (hz : ∀ b, Z' b → Z b ∨ b ∉ ([] : List Addr)) (hv : vs.all (notOwn Γ) = true) {b : Addr} : Ow C Z (wipeG Γ vs) (wipe σ vs) b ↔ Ow C Z Γ σ b := by
  constructor
  · rintro (h | h | ⟨i, d, h1, h2⟩)
    · exact .inl h
    · exact .inr (.inl h)
    · rcases wipeG_get h1 with h | ⟨h3, h4⟩
      · cases h
      · exact .inr (.inr ⟨i, d, h3, (wipe_some h2).1⟩)
  · rintro (h | h | ⟨i, d, h1, h2⟩)
    · exact .inl h
    · exact .inr (.inl h)
    · have ni : i ∉ vs := fun hm => by
        have := List.all_eq_true.mp hv i hm
        unfold notOwn at this
        rw [h1] at this; cases this
      exact .inr (.inr ⟨i, d, by rw [wipeG_out ni]; exact h1, by rw [wipe_out ni]; exact h2⟩)
/-- the state of a comprehension's block, the new list at Dn owned from outside -/
theorem Rel.blk {vs : List Nat} {Dn : Addr} (R : Rel C Z Γ w σ H) (hv : vs.all (notOwn Γ) = true) (hD : H Dn ≠ none) (hz : C.H0 Dn = none) (old : ∀ (i : Nat) (d : D) (a : Addr), Γ[i]? = some (.own d) → σ[i]? = some (some (.ref a)) → a ≠ Dn)
    (val : ∀ (i : Nat) (fr : Bool) (d : D), Γ[i]? = some (.val fr d) → ∃ v, σ[i]? = some (some v) ∧ Rep H d (fun b => (Ow C Z Γ σ b ∨ (fr = true ∧ C.A0 b)) ∨ b = Dn) v)
    (own : ∀ (i : Nat) (d : D), Γ[i]? = some (.own d) → ∃ a, σ[i]? = some (some (.ref a)) ∧ Top H d (fun b => (Ow C Z Γ σ b ∨ C.A0 b) ∨ b = Dn) a) :
    Rel C (fun b => Z b ∨ b = Dn) (wipeG Γ vs) w (wipe σ vs) H := by
  have ow : ∀ b, Ow C (fun b => Z b ∨ b = Dn) (wipeG Γ vs) (wipe σ vs) b → Ow C Z Γ σ b ∨ b = Dn := fun b z => by
    rcases z with z | (z | z) | ⟨i, d, h1, h2⟩
    · exact .inl (.inl z)
    · exact .inl (.inr (.inl z))
    · exact .inr z
    · rcases wipeG_get h1 with h | ⟨h3, h4⟩
      · cases h
      · exact .inl (.inr (.inr ⟨i, d, h3, (wipe_some h2).1⟩))
  refine ⟨by rw [wipeG_length, wipe_length, R.len], R.wr, R.ext, fun b z => z.elim (R.zd b) fun z => by rw [z]; exact hD, fun b z => z.elim (R.zn b) fun z => by rw [z]; exact hz, fun i j di dj a h1 h2 h3 h4 => ?_, fun i fr d h => ?_, fun i d h => ?_⟩
  · rcases wipeG_get h1 with h | ⟨p1, p2⟩
    · cases h
    · rcases wipeG_get h2 with h | ⟨p3, p4⟩
      · cases h
      · exact R.dist i j _ _ a p1 p3 (wipe_some h3).1 (wipe_some h4).1
  · rcases wipeG_get h with h | ⟨p1, p2⟩
    · cases h
    · obtain ⟨v, q1, q2⟩ := val i fr d p1
      refine ⟨v, by rw [wipe_out p2]; exact q1, Rep.move _ q2 (fun b _ z => ?_) (fun _ _ h _ => h) fun _ _ h => h⟩
      rcases z with z | z
      · exact (ow b z).imp .inl id
      · exact .inl (.inr z)
  · rcases wipeG_get h with h | ⟨p1, p2⟩
    · cases h
    · obtain ⟨a, q1, q2⟩ := own i d p1
      obtain ⟨a', r1, r2, r3, r4, _⟩ := R.own i d p1
      rw [q1] at r1; cases r1
      refine ⟨a, by rw [wipe_out p2]; exact q1, r2, r3, fun z => z.elim r4 (old i d a p1 q1), q2.move (fun _ h => h) (fun b _ z => ?_) (fun _ _ h _ => h) fun _ _ h => h⟩
      rcases z with z | z
      · exact (ow b z).imp .inl id
      · exact .inl (.inr z)
theorem wipe_set : ∀ {vs : List Nat} {i : Nat} {x : Option V} {σ : L2.St}, i ∈ vs → wipe (σ.set i x) vs = wipe σ vs
  | v :: vs, i, x, σ, h => by
    unfold wipe
    by_cases hm : i ∈ vs
    · rw [wipe_set hm]
    · have e : i = v := by simpa [hm] using h
      subst e
      have : ∀ (us : List Nat) (τ : L2.St), i ∉ us → wipe (τ.set i x) us = (wipe τ us).set i x := fun us => by
        induction us with
        | nil => intro τ _; rfl
        | cons u us ih =>
          intro τ hu
          simp only [List.mem_cons, not_or] at hu
          unfold wipe
          rw [ih τ hu.2, List.set_comm _ _ hu.1]
      rw [this vs σ hm, List.set_set]
theorem wipe_setVs : ∀ {is : List Nat} {us : List V} {vs : List Nat} {σ : L2.St}, (∀ i ∈ is, i ∈ vs) → wipe (setVs is us σ) vs = wipe σ vs
  | [], _, _, _, _ => by unfold setVs; rfl
  | _ :: _, [], _, _, _ => by unfold setVs; rfl
  | i :: is, u :: us, vs, σ, h => by
    unfold setVs
    rw [wipe_setVs fun j hj => h j (List.mem_cons_of_mem _ hj), wipe_set (h i List.mem_cons_self)]
theorem wipe_set_none : ∀ {vs : List Nat} {i : Nat} {σ : L2.St}, i ∈ vs → (wipe σ vs).set i none = wipe σ vs
  | v :: vs, i, σ, h => by
    unfold wipe
    by_cases hv : i = v
    · subst hv; rw [List.set_set]
    · have hm : i ∈ vs := by simpa [hv] using h
      rw [List.set_comm _ _ (Ne.symm hv), wipe_set_none hm]
theorem wipe_wipe' : ∀ (us vs : List Nat) (σ : L2.St), (∀ i ∈ us, i ∈ vs) → wipe (wipe σ vs) us = wipe σ vs
  | [], _, _, _ => rfl
  | u :: us, vs, σ, h => by
    show (wipe (wipe σ vs) us).set u none = wipe σ vs
    rw [wipe_wipe' us vs σ fun i hi => h i (List.mem_cons_of_mem _ hi)]
    exact wipe_set_none (h u List.mem_cons_self)
theorem wipe_wipe (vs : List Nat) (σ : L2.St) : wipe (wipe σ vs) vs = wipe σ vs := wipe_wipe' vs vs σ fun _ h => h
variable {tge iter elt : Expr} {ifs : List Expr} {it : IM C} {tt : BM C} {te : EM C} {vs : List Nat}
theorem lc_snd (tg : Tg) (hvs : ∀ i ∈ tg.slots, i ∈ vs) {σ : L2.St} {H : Hp} {Q : VK} (h : lE C (lcM tg it tt te vs) σ H Q) : tLc (lI C it) (tg.g X.K) (lT C tt) (lE C te) vs σ H Q := by
  obtain ⟨Z, Γ, w, Q0, R, ht, hq⟩ := h
  refine ⟨Z, Γ, w, _, R, ht, fun md ds w1 H1 J h1 e1 wr1 W _ => fun Dn hDn => ?_⟩
  obtain ⟨hv, h1⟩ := h1
  have R1 := R.step e1 wr1
  have B1 := R.bs.ext e1
  have nDn : ∀ c, H1 c ≠ none → c ≠ Dn := fun c h z => h (by rw [z]; exact hDn)
  have nW : ¬ C.W Dn := fun z => R1.sub Dn (.inl (.inl z)) hDn
  refine ⟨fun i m H2 => m = ds.length - i ∧ i ≤ ds.length ∧ ∃ w2 md2 acc us, C.wr w2 H2 ∧ Ext C.W H1 H2 ∧ H2 Dn = some (.lst us) ∧ md2.ok = true ∧ RepAll H2 acc (fun b => Av C Z Γ σ H md2 b ∨ b = Dn) us ∧ acc.length ≤ 1000000 ∧
    lcLoop tg md.item.fr tt te (wipeG Γ vs) (fun m acc w2 => Q0 m (.lst acc) w2) (ds.drop i) w2 md2 acc, ⟨_, rfl, Nat.zero_le _, w1, .F, [], [], R1.wsame (same_new hDn), .same (same_new hDn), upd_same, rfl, rfl, by decide, h1⟩, ?_⟩
  rintro i m H2 ⟨rfl, hi, w2, md2, acc, us, wr2, e2, hD2, hm2, ra, hacc, h2⟩
  by_cases hlt : i < ds.length
  · refine .inr ⟨W.go i H2 e2 hlt, fun H' => i + 1 ≤ ds.length ∧ ∃ w2 md2 acc us, C.wr w2 H' ∧ Ext C.W H1 H' ∧ H' Dn = some (.lst us) ∧ md2.ok = true ∧ RepAll H' acc (fun b => Av C Z Γ σ H md2 b ∨ b = Dn) us ∧ acc.length ≤ 1000000 ∧
      lcLoop tg md.item.fr tt te (wipeG Γ vs) (fun m acc w2 => Q0 m (.lst acc) w2) (ds.drop (i + 1)) w2 md2 acc, fun H' ⟨q1, q2⟩ => ⟨ds.length - (i + 1), by omega, rfl, q1, q2⟩, fun x H3 hy => ?_⟩
    obtain ⟨g3, d, hd, hr⟩ := W.yld i H2 x H3 e2 hlt hy
    have e : ds.drop i = d :: ds.drop (i + 1) := by
      rw [List.drop_eq_getElem_cons hlt]
      rw [List.getElem?_eq_getElem hlt] at hd
      cases hd; rfl
    rw [e] at h2
    have e3 : Ext C.W H1 H3 := e2.trans (.same g3)
    have hD3 : H3 Dn = some (.lst us) := g3 _ _ hD2
    have R3 : Rel C Z Γ w2 σ H3 := (R1.step e2 wr2).grow g3
    have ra3 : RepAll H3 acc (fun b => Av C Z Γ σ H md2 b ∨ b = Dn) us := RepAll.move acc ra (fun _ _ z => z) (fun b o hb n => g3 b o hb) fun b o hb => g3 b _ hb
    have RB : Rel C (fun b => Z b ∨ b = Dn) (wipeG Γ vs) w2 (wipe σ vs) H3 := by
      refine R3.blk hv (by rw [hD3]; simp) (by cases q : C.H0 Dn with | none => rfl | some o => exact absurd rfl (nDn Dn (R1.ext.dom Dn (by rw [q]; simp)))) (fun i d a q1 q2 => nDn a (R1.sub a (.inl (.inr (.inr ⟨i, d, q1, q2⟩))))) (fun i fr d q => ?_) fun i d q => ?_
      · obtain ⟨v, p1, p2⟩ := R1.val i fr d q
        exact ⟨v, p1, Rep.move _ p2 (fun b hb z => z.elim id fun z => absurd z (nDn b hb)) (fun b o hb n => e3.keep b o hb fun z => n (.inl (.inl z))) e3.tup⟩
      · obtain ⟨a, p1, p2, p3, p4, p5⟩ := R1.own i d q
        exact ⟨a, p1, p5.move (fun o h => e3.keep a o h p3) (fun b hb z => z.elim id fun z => absurd z (nDn b hb)) (fun b o hb n => e3.keep b o hb fun z => n (.inl (.inl z))) e3.tup⟩
    have oww : ∀ b, Ow C (fun b => Z b ∨ b = Dn) (wipeG Γ vs) (wipe σ vs) b → Ow C Z Γ σ b ∨ b = Dn := fun b z => by
      rcases z with z | (z | z) | ⟨i, d, h1, h2⟩
      · exact .inl (.inl z)
      · exact .inl (.inr (.inl z))
      · exact .inr z
      · rcases wipeG_get h1 with h | ⟨h3, h4⟩
        · cases h
        · exact .inl (.inr (.inr ⟨i, d, h3, (wipe_some h2).1⟩))
    have oww' : ∀ b, Ow C Z Γ σ b → Ow C (fun b => Z b ∨ b = Dn) (wipeG Γ vs) (wipe σ vs) b := fun b z => by
      have := (ow_wipe (C := C) (Z := Z) (Z' := Z) (σ := σ) (fun _ z => .inl z) hv (b := b)).mpr z
      rcases this with z | z | z
      · exact .inl z
      · exact .inr (.inl (.inl z))
      · exact .inr (.inr z)
    have rd : Rep H3 d (fun b => Ow C (fun b => Z b ∨ b = Dn) (wipeG Γ vs) (wipe σ vs) b ∨ (md.item.fr = true ∧ C.A0 b)) x := hr _ fun b hb z => by
      rcases z with z | ⟨z1, z2⟩
      · rcases oww b z with z | z
        · exact Av.ow B1 z
        · exact absurd z (nDn b hb)
      · cases md with
        | F => exact R.sub b (.inr z2)
        | PF => exact .inr z2
        | P => cases z1
        | B => exact .inr z2
    refine asg_ok tg RB rd h2 fun Γ4 σ4 h4 R4 F4 hσ4 hΓ4 => ⟨?_, _, Γ4, w2, _, R4, h4, fun b w5 H5 h5 e5 wr5 => ?_⟩
    · obtain ⟨vs4, rfl⟩ := hσ4
      rw [wipe_setVs hvs]
      exact wipe_wipe vs σ
    · have hD5 : H5 Dn = some (.lst us) := e5.keep _ _ hD3 nW
      have ra5 : RepAll H5 acc (fun b => Av C Z Γ σ H md2 b ∨ b = Dn) us := RepAll.move acc ra3 (fun _ _ z => z) (fun b o hb n => e5.keep b o hb fun z => n (.inl (Av.w B1 z))) e5.tup
      dsimp only at h5 ⊢
      cases b with
      | false =>
        rw [if_neg Bool.false_ne_true] at h5 ⊢
        exact ⟨hlt, w5, md2, acc, us, wr5, e3.trans e5, hD5, hm2, ra5, hacc, h5⟩
      | true =>
        rw [if_pos rfl] at h5 ⊢
        refine ⟨_, Γ4, w5, _, R4.step e5 wr5, h5, fun me e w6 v H6 h6 e6 wr6 r6 => ?_⟩
        obtain ⟨hme, hlen, h6⟩ := h6
        have hD6 : H6 Dn = some (.lst us) := e6.keep _ _ hD5 nW
        have ra6 : RepAll H6 acc (fun b => Av C Z Γ σ H md2 b ∨ b = Dn) us := RepAll.move acc ra5 (fun _ _ z => z) (fun b o hb n => e6.keep b o hb fun z => n (.inl (Av.w B1 z))) e6.tup
        refine ⟨us, hD6, by rw [ra6.length]; exact Nat.lt_of_lt_of_le hlen (by rw [sizeLine_eq]; decide), hlt, w6, md2.max (nm me e), acc ++ [e], us ++ [v], ?_, ?_, upd_same, ?_, ?_, by simp; omega, h6⟩
        · refine C.fr w6 H6 _ (fun b hb => upd_ne fun z => nW (by rw [← z]; exact hb)) wr6
        · have q := (e3.trans e5).trans e6
          exact ⟨fun b h => by rw [upd_ne (nDn b h)]; exact q.dom b h, fun b o h n => by rw [upd_ne (nDn b (by rw [h]; simp))]; exact q.keep b o h n, fun b o h => by rw [upd_ne (nDn b (by rw [h]; simp))]; exact q.tup b o h⟩
        · have hnm : (nm me e).ok = true := by unfold nm; split <;> first | rfl | exact hme
          exact Md.max_ok _ _ hm2 hnm
        · have hnm : (nm me e).ok = true := by unfold nm; split <;> first | rfl | exact hme
          have hmx := Md.max_ok _ _ hm2 hnm
          -- the new item, avoiding the owned and the new list
          have f4 : ∀ b, Ow C (fun b => Z b ∨ b = Dn) Γ4 σ4 b → H5 b ≠ none := fun b z => e5.dom b (R4.sub b (.inl z))
          have ow4 : ∀ b, Ow C Z Γ σ b ∨ b = Dn → Ow C (fun b => Z b ∨ b = Dn) Γ4 σ4 b := fun b z => by
            rcases z with z | z
            · rcases oww' b z with y | y | ⟨j, dj, y1, y2⟩
              · exact .inl y
              · exact .inr (.inl y)
              · obtain ⟨us4, rfl⟩ := hσ4
                obtain ⟨ds4, rfl⟩ := hΓ4
                have ni : j ∉ vs := fun hm => by
                  rcases wipeG_get y1 with q | ⟨_, q⟩
                  · cases q
                  · exact q hm
                have nt : j ∉ tg.slots := fun hm => ni (hvs j hm)
                have g1 : ∀ (is : List Nat) (ds : List D) (G : List Sl), j ∉ is → (setAll md.item.fr is ds G)[j]? = G[j]? := fun is => by
                  induction is with
                  | nil => intro ds G _; unfold setAll; rfl
                  | cons i is ih =>
                    intro ds G hj
                    simp only [List.mem_cons, not_or] at hj
                    cases ds with
                    | nil => unfold setAll; rfl
                    | cons d ds => unfold setAll; rw [ih ds _ hj.2, List.getElem?_set_ne fun z => hj.1 z.symm]
                have g2 : ∀ (is : List Nat) (ds : List V) (G : L2.St), j ∉ is → (setVs is ds G)[j]? = G[j]? := fun is => by
                  induction is with
                  | nil => intro ds G _; unfold setVs; rfl
                  | cons i is ih =>
                    intro ds G hj
                    simp only [List.mem_cons, not_or] at hj
                    cases ds with
                    | nil => unfold setVs; rfl
                    | cons d ds => unfold setVs; rw [ih ds _ hj.2, List.getElem?_set_ne fun z => hj.1 z.symm]
                exact .inr (.inr ⟨j, dj, by rw [g1 _ _ _ nt]; exact y1, by rw [g2 _ _ _ nt]; exact y2⟩)
            · exact .inr (.inl (.inr z))
          have BB : Bs C (fun b => Z b ∨ b = Dn) Γ4 σ4 H5 H6 := ⟨fun b z => e5.dom b (R4.sub b z), e6.dom⟩
          have rv : Rep H6 e (fun b => Av C Z Γ σ H (nm me e) b ∨ b = Dn) v := by
            have q := RepM.all hnm (r6.nm BB)
            refine Rep.move e q (fun b hb z => ?_) (fun _ _ h _ => h) fun _ _ h => h
            generalize nm me e = mm at z hnm ⊢
            cases mm with
            | F =>
              rcases z with z | z
              · exact ((e1.trans e3).trans e5).dom b z
              · rw [z]; exact (show H5 Dn ≠ none by rw [hD5]; simp)
            | PF =>
              rcases z with (z | z) | z
              · exact .inl (ow4 b (.inl z))
              · exact .inr z
              · exact .inl (ow4 b (.inr z))
            | P =>
              rcases z with z | z
              · exact ow4 b (.inl z)
              · exact ow4 b (.inr z)
            | B => cases hnm
          have wk : ∀ {m m' : Md} {b : Addr}, m.le m' = true → m'.ok = true → Av C Z Γ σ H m' b → Av C Z Γ σ H m b := fun {m m' b} hl ho z => by
            cases m <;> cases m' <;> first | (cases hl; done) | (cases ho; done) | exact z | exact B1.sub b z | exact B1.sub b (.inl z) | exact .inl z
          have all : RepAll H6 (acc ++ [e]) (fun b => Av C Z Γ σ H (md2.max (nm me e)) b ∨ b = Dn) (us ++ [v]) :=
            (RepAll.move acc ra6 (fun b _ z => z.imp (wk (Md.le_max_left _ _ hmx) hmx) id) (fun _ _ h _ => h) fun _ _ h => h).append
              (.one (Rep.move e rv (fun b _ z => z.imp (wk (Md.le_max_right _ _ hmx) hmx) id) (fun _ _ h _ => h) fun _ _ h => h))
          exact RepAll.move _ all (fun _ _ z => z) (fun b o hb n => by rw [upd_ne fun z => n (.inr z)]; exact hb) fun b o hb => by rw [upd_ne fun z => by rw [z, hD6] at hb; cases hb]; exact hb
  · have e : i = ds.length := by omega
    subst e
    rw [List.drop_length] at h2
    refine .inl ⟨W.stop H2 e2, hq _ _ _ _ _ h2 (e1.trans e2) wr2 (RepM.mk hm2 ⟨Dn, rfl, fun z => ?_, us, hD2, ra⟩)⟩
    cases md2 with
    | F => exact e1.dom Dn z hDn
    | PF => exact R1.sub Dn z hDn
    | P => exact R1.sub Dn (.inl z) hDn
    | B => cases hm2
end
end VS

namespace VS
open PySem PySem.Spec PyProof.Rows L2
/-! ### a comprehension as an expression, given to a name -/
section
variable {X : Cx} {ω : Type} {C : Cn ω} {tge iter elt : Expr} {ifs : List Expr} {it : IM C} {tt : BM C} {te : EM C} {scope : Scope} {own : List (Str × Nat)} {pos : Pos}
def yesM : BM C := fun _ w Q => Q true w
theorem vts0 : PTs X [] (lT C yesM) := PTsimp pts_nil fun σ H Q ⟨Z, Γ, w, Q0, R, ht, hq⟩ => hq _ _ _ ht (.refl _ _) R.wr
theorem vts1 {c : Expr} {A : BM C} (h : VT X C c A) : PTs X [c] (lT C A) := pts_one h
theorem vlc (tg : Tg) (hvs : ∀ i ∈ tg.slots, i ∈ own.map (·.2)) (hc : X.calm = true) (hN : X.N.Nodup) (hi : VI X C tge iter it) (ok : BlkOk X.N X.env.scope scope own)
    (hg : ∀ (s : Shared) (H : Hp) (Cc : Addr) (cl : List (Str × Addr)) (fp : List Addr), PG (X.blk s H scope (compEnvC scope cl Cc X.env) fp) tge (tg.g X.K)) (ht : ∀ (s : Shared) (H : Hp) (Cc : Addr) (cl : List (Str × Addr)) (fp : List Addr), PTs (X.blk s H scope (compEnvC scope cl Cc X.env) fp) ifs (lT C tt))
    (he : ∀ (s : Shared) (H : Hp) (Cc : Addr) (cl : List (Str × Addr)) (fp : List Addr), VE (X.blk s H scope (compEnvC scope cl Cc X.env) fp) C elt te) (hs : ∀ x, foldedSetIterable iter X.env x = pure x := by intro _; rfl) :
    VE X C (.ListComp elt [⟨tge, iter, ifs, 0⟩] scope pos) (lcM tg it tt te (own.map (·.2))) := PEimp (pe_lc hc hN hi ok hg ht he hs) fun σ H Q h => lc_snd tg hvs h
theorem vsetLc {i : Nat} {y : Str} {py : Pos} {spos : Pos} (tg : Tg) (hvs : ∀ i ∈ tg.slots, i ∈ own.map (·.2)) (hc : X.calm = true) (hN : X.N.Nodup) (hy : X.N[i]? = some y) (hyl : X.env.scope.names.lookup y = some .local)
    (hsw : swapsWith (.ListComp elt [⟨tge, iter, ifs, 0⟩] scope pos) (some (.Name y py)) spos.line X.env = pure true) (hi : VI X C tge iter it) (ok : BlkOk X.N X.env.scope scope own)
    (hg : ∀ (s : Shared) (H : Hp) (Cc : Addr) (cl : List (Str × Addr)) (fp : List Addr), PG (X.blk s H scope (compEnvC scope cl Cc X.env) fp) tge (tg.g X.K)) (ht : ∀ (s : Shared) (H : Hp) (Cc : Addr) (cl : List (Str × Addr)) (fp : List Addr), PTs (X.blk s H scope (compEnvC scope cl Cc X.env) fp) ifs (lT C tt))
    (he : ∀ (s : Shared) (H : Hp) (Cc : Addr) (cl : List (Str × Addr)) (fp : List Addr), VE (X.blk s H scope (compEnvC scope cl Cc X.env) fp) C elt te) (hs : ∀ x, foldedSetIterable iter X.env x = pure x := by intro _; rfl) :
    PS X (.Assign [.Name y py] (.ListComp elt [⟨tge, iter, ifs, 0⟩] scope pos) spos) (tAsg (lE C (lcM tg it tt te (own.map (·.2)))) (gName i)) :=
  PSimp (ps_setLc hc hN hy hyl hsw hi ok hg ht he hs) fun D σ H h => lc_snd (X := X) tg hvs (Q := fun x H1 => gName i x σ H1 D.nx) h
end
/-! ### promises: a def by the data that it is given and gives -/
/-- the i-th argument is new to whoever calls (frs), or any -/
def Args (H : Hp) (A W : Addr → Prop) : List Bool → List D → List V → Prop
  | fs, d :: ds, vs => ∃ v r, vs = v :: r ∧ Rep H d (fun b => W b ∨ (fs.head? = some true ∧ A b)) v ∧ Args H A W fs.tail ds r
  | _, [], vs => vs = []
abbrev PD := List D → (D → Prop) → Prop
def spD (n : Nat) (frs : List Bool) (P : PD) : Sp := fun vs H Q _ => ∃ (A : Addr → Prop) (ds : List D) (Kp : D → Prop), (∀ b, A b → H b ≠ none) ∧ ds.length = n ∧ Args H A (fun _ => False) frs ds vs ∧ P ds Kp ∧ ∀ d v H', Kp d → Same H H' → Rep H' d A v → Q v H'
theorem Args.length {H : Hp} {A W : Addr → Prop} : ∀ {ds : List D} {fs : List Bool} {vs : List V}, Args H A W fs ds vs → vs.length = ds.length
  | [], _, _, h => by unfold Args at h; rw [h]; rfl
  | d :: ds, fs, _, h => by
    unfold Args at h
    obtain ⟨v, r, rfl, _, q⟩ := h
    simp [Args.length q]
def pureC (A0 : Addr → Prop) (H0 : Hp) (hA : ∀ b, A0 b → H0 b ≠ none) : Cn Unit := { W := fun _ => False, wr := fun _ _ => True, fr := fun _ _ _ _ _ => trivial, A0 := A0, H0 := H0, hA := hA, hW := fun _ h => h.elim, hdl := 0 }
def startG (n : Nat) : List Bool → List D → List Sl
  | fs, d :: ds => .val (fs.head?.getD false || d.flat) d :: startG (n - 1) fs.tail ds
  | _, [] => List.replicate n .no
theorem startG_length : ∀ (n : Nat) (fs : List Bool) (ds : List D), ds.length ≤ n → (startG n fs ds).length = n
  | n, fs, [], _ => by unfold startG; simp
  | n, fs, d :: ds, h => by
    unfold startG
    have h' : ds.length + 1 ≤ n := h
    rw [List.length_cons, startG_length (n - 1) fs.tail ds (by omega)]
    omega
theorem startG_get {H : Hp} {A W : Addr → Prop} : ∀ (n : Nat) {fs : List Bool} {ds : List D} {vs : List V}, Args H A W fs ds vs → ∀ (i : Nat) (s : Sl), (startG n fs ds)[i]? = some s →
    s = .no ∨ ∃ fr d v, s = .val fr d ∧ vs[i]? = some v ∧ Rep H d (fun b => W b ∨ (fr = true ∧ A b)) v
  | n, fs, [], vs, _, i, s, h => by
    unfold startG at h
    rw [List.getElem?_replicate] at h
    split at h
    · cases h; exact .inl rfl
    · cases h
  | n, fs, d :: ds, vs, a, i, s, h => by
    unfold Args at a
    obtain ⟨v, r, rfl, hr, q⟩ := a
    unfold startG at h
    cases i with
    | zero =>
      simp at h
      refine .inr ⟨_, d, v, h.symm, rfl, ?_⟩
      by_cases hd : d.flat = true
      · exact Rep.flat d hd hr
      · rw [Bool.not_eq_true] at hd
        rw [hd, Bool.or_false]
        refine Rep.move d hr (fun b _ z => z.imp id fun z => ⟨?_, z.2⟩) (fun _ _ h _ => h) fun _ _ h => h
        cases e : fs.head? with
        | none => rw [e] at z; cases z.1
        | some k => rw [e] at z; rw [show k = true from z.1]
    | succ i =>
      rw [List.getElem?_cons_succ] at h
      rcases startG_get (n - 1) q i s h with h | ⟨fr, d', v', h1, h2, h3⟩
      · exact .inl h
      · exact .inr ⟨fr, d', v', h1, by simpa using h2, h3⟩
theorem start_rel {ω : Type} {C : Cn ω} {N : List Str} {vs : List V} {ds : List D} {fs : List Bool} {w : ω} (hN : vs.length ≤ N.length) (wr : C.wr w C.H0) (a : Args C.H0 C.A0 C.W fs ds vs) : Rel C (fun _ => False) (startG N.length fs ds) w (L2.start N vs) C.H0 := by
  have hl := a.length
  have noOwn : ∀ (i : Nat) (d : D), (startG N.length fs ds)[i]? ≠ some (.own d) := fun i d h => by
    rcases startG_get _ a i _ h with h | ⟨fr, d', v, h, _⟩ <;> cases h
  have ow : ∀ b, Ow C (fun _ => False) (startG N.length fs ds) (L2.start N vs) b → C.W b := fun b z => by
    rcases z with z | z | ⟨i, d, h1, _⟩
    · exact z
    · exact z.elim
    · exact absurd h1 (noOwn i d)
  refine ⟨?_, wr, .refl _ _, fun _ z => z.elim, fun _ z => z.elim, fun i j di dj a h1 => absurd h1 (noOwn i di), fun i fr d h => ?_, fun i d h => absurd h (noOwn i d)⟩
  · rw [startG_length _ _ _ (by omega)]
    unfold L2.start
    simp; omega
  · rcases startG_get _ a i _ h with h | ⟨fr', d', v, h, h1, h2⟩
    · cases h
    · cases h
      refine ⟨v, ?_, Rep.move d h2 (fun b _ z => z.imp (ow b) id) (fun _ _ h _ => h) fun _ _ h => h⟩
      unfold L2.start
      have hi : i < vs.length := (List.getElem?_eq_some_iff.mp h1).1
      rw [List.getElem?_append_left (by simpa using hi), List.getElem?_map, h1]
      rfl
section
variable {P : Program} {w : World} {K : PySem.W.Frag} {mg : Str → Option Value} {base : Heap}
/-- a def of the text as one may call it -/
def FnC (P : Program) (w : World) (K : PySem.W.Frag) (mg : Str → Option Value) (base : Heap) (x : Str) (k : Nat) (ps : List Str) (sp : Sp) : Prop :=
  ∃ (f : Addr) (fd : FuncData), mg x = some (.ref f) ∧ PySem.W.keepIn K (.ref f) = true ∧ Binds K fd ps [] ∧ FnOk P w K mg base (L2.CX P w) k f fd ps sp
/-- a def of the text, as the top has left it -/
def FnT (K : PySem.W.Frag) (mg : Str → Option Value) (x : Str) (st : Stmt) (ps : List Str) : Prop := ∃ (f : Addr) (fd : FuncData), mg x = some (.ref f) ∧ Fun K x x st f fd ∧ Binds K fd ps []
/-- THE RULE for a def without a world -/
theorem okD {x : Str} {st : Stmt} {N ps : List Str} {k n : Nat} {frs : List Bool} {P0 : PD} (F : FnT K mg x st ps) (S : FnScope N ps (defScope st)) (hn : n = ps.length)
    (hb : ∀ (f : Addr) (cdv : Value) (A : Around) (outer : List Env) (s : Shared) (H : Hp) (E : XK) (A0 : Addr → Prop) (hA : ∀ b, A0 b → H b ≠ none), Room k (A.deeper (envOfC x (defScope st) s.heap.objs.size f cdv)) →
      ∃ t : SM (pureC A0 H hA), VSs (cxOf (L2.CX P w) P w K mg base N x (defScope st) f cdv A outer s H E) (pureC A0 H hA) (defBody st) t ∧
        ∀ (ds : List D) (Kp : D → Prop), ds.length = n → P0 ds Kp → t ⟨fun _ _ => Kp .non, fun d _ => Kp d, fun _ _ => False, fun _ _ => False⟩ (startG N.length frs ds) ()) : FnC P w K mg base x (k + 1) ps (spD n frs P0) := by
  obtain ⟨f, fd, hm, F, hB⟩ := F
  refine ⟨f, fd, hm, F.kp, hB, F.okX S (fun vs H Q E h => ?_) (fun cdv A outer s H vs Q E hr h => ?_)⟩
  · obtain ⟨A, ds, Kp, _, hl, ha, _⟩ := h
    rw [ha.length, hl, hn]
  · obtain ⟨A0, ds, Kp, hA, hl, ha, hP, hK⟩ := h
    obtain ⟨t, ht, hq⟩ := hb f cdv A outer s H E A0 hA hr
    refine ⟨_, ht, fun _ => False, startG N.length frs ds, (), ⟨fun _ _ => Kp .non, fun d _ => Kp d, fun _ _ => False, fun _ _ => False⟩, ?_, hq ds _ hl hP, ⟨fun Γ' w' σ' H' h R f => ?_, fun _ _ _ _ h _ _ => h.elim, fun _ _ _ _ h _ _ => h.elim, fun d w' v H' h e _ r => hK d v H' h e.to_same r⟩⟩
    · refine start_rel (C := pureC A0 H hA) ?_ trivial ha
      have := S.pre
      have hp : (N.take ps.length).length = ps.length := by rw [this]
      rw [ha.length, hl, hn]
      rw [List.length_take] at hp
      omega
    · exact hK .non .non H' h (R.ext.to_same) rfl
end
/-! ### calls -/
def frOk : List Bool → List (Md × D) → Bool
  | fs, p :: ps => (fs.head?.getD false == false || p.1 == .F || p.2.flat) && frOk fs.tail ps
  | _, [] => true
def callD {ω : Type} {C : Cn ω} (n : Nat) (frs : List Bool) (P0 : PD) (ts : AM C) : EM C := fun Γ w Q => ts Γ w fun ps w1 => ps.length = n ∧ frOk frs ps = true ∧ P0 (ps.map (·.2)) fun d => Q .F d w1
section
variable {X : Cx} {ω : Type} {C : Cn ω}
theorem args_ok {Z : Addr → Prop} {Γ : List Sl} {σ : L2.St} {Hs H : Hp} {W : Addr → Prop} (B : Bs C Z Γ σ Hs H) (hW : ∀ b, W b → C.W b) : ∀ {ps : List (Md × D)} {frs : List Bool} {vs : List V}, RepMs C Z Γ σ Hs H ps vs → frOk frs ps = true → Args H (fun b => Hs b ≠ none) W frs (ps.map (·.2)) vs
  | [], _, _, r, _ => r
  | p :: ps, frs, _, r, hf => by
    obtain ⟨v, r', rfl, h1, h2⟩ := r
    unfold frOk at hf
    obtain ⟨hf1, hf2⟩ := Bool.and_eq_true_iff.mp hf
    refine ⟨v, r', rfl, ?_, args_ok B hW h2 hf2⟩
    by_cases hd : p.2.flat = true
    · exact Rep.flat _ hd (h1.any B)
    · cases hh : frs.head? with
      | none => exact Rep.move _ (h1.any B) (fun b _ z => z.elim (hW b) fun z => by cases z.1) (fun _ _ h _ => h) fun _ _ h => h
      | some k =>
        cases k with
        | false => exact Rep.move _ (h1.any B) (fun b _ z => z.elim (hW b) fun z => by cases z.1) (fun _ _ h _ => h) fun _ _ h => h
        | true =>
          obtain ⟨m, d⟩ := p
          have hm : m = .F := by
            rw [hh] at hf1
            simp [hd] at hf1
            exact hf1
          subst hm
          exact Rep.move _ (h1 : Rep H d (fun b => Hs b ≠ none) v) (fun b _ z => z.elim (fun z => B.sub b (.inl (.inl (hW b z)))) And.right) (fun _ _ h _ => h) fun _ _ h => h
theorem vcall {x : Str} {k : Nat} {ps : List Str} {n : Nat} {frs : List Bool} {P0 : PD} {e : Expr} {es : List Expr} {ts : AM C} {p pos : Pos} (F : FnC X.prog X.w X.K X.mg X.base x k ps (spD n frs P0)) (hr : Room k X.A) (hp : Passes (L2.CX X.prog X.w) X E0) (ha : VA X C (e :: es) ts) (hg : Gl X x := by rfl) (hdb : (x == ("__debug__" : Str)) = false := by decide)
    (he : starEach (e :: es) X.env = (false, eval e X.env) :: starEach es X.env := by rfl) (hpl : (backTo pos (starEach es X.env)).any (·.1) = false := by rfl) : VE X C (.Call (.Name x p) (e :: es) [] pos) (callD n frs P0 ts) := by
  obtain ⟨f, fd, hm, hk, hB, F⟩ := F
  refine PEimp (pe_call (dvs := []) F hr hg hm hk hB .nil hp ha hdb he hpl) fun σ H Q ⟨Z, Γ, w, Q0, R, ht, hq⟩ => ⟨Z, Γ, w, _, R, ht, fun ps w1 vs H1 h1 e1 wr1 r1 => ?_⟩
  obtain ⟨hl, hf, h1⟩ := h1
  have B := R.bs.ext e1
  refine ⟨fun b => H b ≠ none, ps.map (·.2), fun d => Q0 .F d w1, fun b h => e1.dom b h, by simpa using hl, ?_, h1, fun d v H' hd g r => hq .F d w1 v H' hd (e1.trans (.same g)) ((R.step e1 wr1).wsame g) r⟩
  rw [List.append_nil]
  exact args_ok B (fun _ z => z.elim) r1 hf
end
end VS

/-! ### enumerate of a tuple -/
namespace VS
open PySem PySem.Spec PyProof.Rows L2
open PySem.AutoSeq1 (wpAny_loadPart')
theorem meets_enumerate_newT (l : Addr) (items : Array Value) (n : Nat) (dct : Option Addr) (sl : Array (Option Value)) :
    Meets (Builtin.«enumerate.__new__» ⟨[.type "enumerate", .ref l], []⟩) (fun _ R s => s.heap.get? l = some { cls := .type "tuple", dict := dct, data := .seq items n, slots := sl } ∧
      R (.ok (.ret (.ref (s.heap.push { cls := .type "tuple_iterator", data := .fields #[.ref l, .int 0 0] }).objs.size)))
        { s with heap := (s.heap.push { cls := .type "tuple_iterator", data := .fields #[.ref l, .int 0 0] }).push { cls := .type "enumerate", data := .fields #[.none, .bool false, .ref s.heap.objs.size, rawInt 0, .none, .none] } }) :=
  .of_wp fun prog w A R s h => by
    obtain ⟨hp, g, d, tk, os⟩ := s; obtain ⟨hl, h⟩ := h
    have hsub := sub_enumerate
    have hL : Heap.IsTuple (Shared.heap ⟨hp, g, d, tk, os⟩) l items := ⟨_, hl, rfl, n, rfl⟩
    wp_walk using wpAny_loadPart' hl
    refine wpAny_stack_any fun st => wpAny_pure ?_
    split
    · rename_i c _ _ _ _ _
      cases (c == Value.type "enumerate")
      · wp_walk using wpAny_loadPart' hl, wpAny_pyIter_tuple hL
        exact ⟨_, rfl, h⟩
      · wp_walk using wpAny_loadPart' hl, wpAny_pyIter_tuple hL
        exact ⟨_, rfl, h⟩
    · wp_walk using wpAny_loadPart' hl, wpAny_pyIter_tuple hL
      exact ⟨_, rfl, h⟩
section
variable {prog : Program} {w : World} {A : Around} {E : Value → Shared → Prop} {s : Shared}
theorem call_enumerate_tuple {l : Addr} {items : Array Value} {Q : Value → Shared → Prop} (hL : s.heap.IsTuple l items)
    (h : ∀ h', IsEnum h' (s.heap.objs.size + 1) s.heap.objs.size 0 .none → h'.IsTupleIter s.heap.objs.size l 0 → h'.objs.size = s.heap.objs.size + 2 →
      (∀ b o, s.heap.get? b = some o → h'.get? b = some o) → Q (.ref (s.heap.objs.size + 1)) { s with heap := h' }) :
    wpAny (model prog w) A (call (.type "enumerate") [.ref l]) Q E s := by
  obtain ⟨⟨c, dct, dt, sl⟩, hl, hc, n, hd⟩ := hL
  replace hc : c = .type "tuple" := hc
  replace hd : dt = .seq items n := hd
  subst hc hd
  refine callType_new F.called_enumerate (by decide) (F.typeCall_enumerate_1 _) (F.newCall_enumerate_1 _) (fun obj => F.args_object_init_2 obj _) F.entry_enumerate_new
    (meets_enumerate_newT l items n dct sl) ⟨hl, ?_⟩
  have hz : (s.heap.push { cls := .type "tuple_iterator", data := .fields #[.ref l, .int 0 0] }).objs.size = s.heap.objs.size + 1 := Heap.size_push ..
  show _ ∧ _
  rw [hz]
  have he : IsEnum ((s.heap.push { cls := .type "tuple_iterator", data := .fields #[.ref l, .int 0 0] }).push
      { cls := .type "enumerate", data := .fields #[.none, .bool false, .ref s.heap.objs.size, rawInt 0, .none, .none] }) (s.heap.objs.size + 1) s.heap.objs.size 0 .none := by
    have := Heap.get?_push_size (s.heap.push { cls := .type "tuple_iterator", data := .fields #[.ref l, .int 0 0] })
      (o := { cls := .type "enumerate", data := .fields #[.none, .bool false, .ref s.heap.objs.size, rawInt 0, .none, .none] }) rfl
    rw [hz] at this; exact this
  refine ⟨⟨_, he, rfl⟩, h _ he ⟨_, Heap.get?_push_of_some _ (Heap.get?_push_size _ rfl), rfl, rfl⟩ (by rw [Heap.size_push, hz]) fun b o x => Heap.get?_push_of_some _ (Heap.get?_push_of_some _ x)⟩
end
def IteT (K : PySem.W.Frag) (a : Addr) : It :=
  ⟨fun i H => ∃ (xs : List V) (x : V), SqT K H a xs ∧ xs[i]? = some x, fun i H v H' => ∃ T x, v = .ref T ∧ H T = none ∧ H' = upd H T (.tup [.int (i : Nat), x]) ∧ ∀ xs, SqT K H a xs → xs[i]? = some x, fun i H => ∃ xs : List V, SqT K H a xs ∧ xs.length = i⟩
theorem turn_enumT {P : Program} {w : World} {K : PySem.W.Frag} {elts : List Expr} {kk : Nat} {tpos : Pos} (a e it : Addr) :
    Turn P w K (.Tuple elts kk tpos) (IteT K a) [e, it] e (fun i h => (∃ old, IsEnum h e it ((i : Nat) : Int) old) ∧ h.IsTupleIter it a i ∧ e ≠ it) where
  mem := by simp
  obj := fun i h st b hb => by
    obtain ⟨⟨old, he⟩, ⟨o, ho, hc, hd⟩, _⟩ := st
    have e' : b = e ∨ b = it := by simpa using hb
    rcases e' with z | z
    · rw [z]; exact ⟨_, he, fun v q => nomatch q⟩
    · rw [z]; exact ⟨o, ho, fun v q => by rw [hd] at q; cases q⟩
  keep := fun i h h' st k => let ⟨⟨old, he⟩, hi, hne⟩ := st; ⟨⟨old, k e (by simp) _ he⟩, hi.at fun o q => k it (by simp) o q, hne⟩
  item := by
    intro X hP hw hK hc i pins s σ H E I hf st hg
    subst hP hw hK
    obtain ⟨⟨old, he⟩, hit, hne⟩ := st
    obtain ⟨xs, x, hq, hx⟩ := hg
    obtain ⟨its, rv, p, hz⟩ := I.tuple hq
    obtain ⟨u, hu, ru⟩ := rv.get hx
    have hp : s.heap.IsTuple a its.toArray := p
    have hel : e < s.heap.objs.size := Heap.lt_size he
    have hil : it < s.heap.objs.size := by obtain ⟨_, q, _⟩ := hit; exact Heap.lt_size q
    have hai : a ≠ it := fun z => by
      obtain ⟨o, ho, hc1, _⟩ := hit
      obtain ⟨o', ho', hc2, _⟩ := hp
      rw [z, ho] at ho'; cases ho'; rw [hc1] at hc2; simp at hc2
    have hae : a ≠ e := fun z => by
      obtain ⟨o', ho', hc2, _⟩ := hp
      have : s.heap.get? e = some _ := he
      rw [z, this] at ho'; cases ho'; simp at hc2
    have hlt : i < its.toArray.size := by
      have := (List.getElem?_eq_some_iff.mp hu).1
      simpa using this
    refine wpAny_pyNext_enum_itemD (Draws.tuple (A := X.A.in1) (by first | exact I.ok.hd hc | (show X.A.handled = none; exact I.ok.hd hc)) it a hai its.toArray) he ⟨hit, hp⟩ hlt hne (by simp [hne, Ne.symm hae]) fun y h' tk hy ho st' hT hsz hk => ?_
    obtain ⟨hit', _⟩ := st'
    have hyu : y = u := by
      have e1 : its.toArray[i]? = some y := hy
      have e2 : its.toArray[i]? = some u := by simpa using hu
      rw [e1] at e2; cases e2; rfl
    subst hyu
    refine ⟨_, rfl, wpAny_letOwnedTupleGo_enum (s := { s with heap := h', toks := tk + 1 }) ho fun h'' he' sb => ?_⟩
    have hT2 : h''.get? s.heap.objs.size = some { cls := .type "tuple", data := .seq #[.int i tk, y] } := (sb.2 _ (Nat.ne_of_gt hel)).trans hT
    have new : ObjOk X.prog X.w (upd H s.heap.objs.size (.tup [.int (i : Nat), x])) h'' s.heap.objs.size (.tup [.int (i : Nat), x]) :=
      ⟨by show 2 ≤ sizeLine; decide, [.int i tk, y], .cons ⟨_, rfl⟩ (.cons ru .nil), ⟨_, hT2, rfl, _, rfl⟩⟩
    have I1 : Inv X pins σ (upd H s.heap.objs.size (.tup [.int (i : Nat), x])) { s with heap := h'', toks := tk + 1 } :=
      I.turnedNew (ch := [e, it]) (fun b ob hb q => (sb.2 b (fun z => hb (by simp [z]))).trans (hk b ob (fun z => hb (by simp [z])) (fun z => hb (by simp [z])) q)) hf (Nat.le_refl _) new
    refine ⟨.ref s.heap.objs.size, _, I1, rfl, ⟨_, x, rfl, I.hok.fresh (Nat.le_refl _), rfl, fun ys hy => by rw [I.tuple_inj hy hq]; exact hx⟩, ⟨⟨y, ?_⟩, hit'.at fun o q => (sb.2 it (Ne.symm hne)).trans q, hne⟩, fun b hb => ?_⟩
    · have e1 : ((i + 1 : Nat) : Int) = (i : Int) + 1 := by omega
      rw [e1]; exact he'
    · have hb' : b < s.heap.objs.size := by
        have e' : b = e ∨ b = it := by simpa using hb
        rcases e' with z | z
        · rw [z]; exact hel
        · rw [z]; exact hil
      rw [upd_ne (Nat.ne_of_lt hb')]
      exact (hf b hb).1
  done := by
    intro X hP hw hK hc i pins s σ H E I hf st hg
    subst hP hw hK
    obtain ⟨⟨old, he⟩, hit, hne⟩ := st
    obtain ⟨xs, hq, hx⟩ := hg
    obtain ⟨its, rv, p, hz⟩ := I.tuple hq
    have hp : s.heap.IsTuple a its.toArray := p
    obtain ⟨f0, f1, f2, f3, f4, f5⟩ := hf it (by simp)
    have hai : a ≠ it := fun z => by
      obtain ⟨o, ho, hc1, _⟩ := hit
      obtain ⟨o', ho', hc2, _⟩ := hp
      rw [z, ho] at ho'; cases ho'; rw [hc1] at hc2; simp at hc2
    have hl := rv.length
    have hsz : its.toArray.size = i := by simp; omega
    subst hsz
    exact wpAny_pyNext_enum_endD (Draws.tuple (A := X.A.in1) (by first | exact I.ok.hd hc | (show X.A.handled = none; exact I.ok.hd hc)) it a hai its.toArray) he ⟨hit, hp⟩ fun h' eb => ⟨rfl, I.turned (t' := s.toks) (fun b o hb q => eb b o hb q) f0 f1 f3 f4 f5⟩
  self := fun A i s Q E st h => let ⟨⟨_, he⟩, _⟩ := st; wpAny_pyIter_enum he h
def iEnumT (K : PySem.W.Frag) (ta : TA) : TI := fun σ H R => ta σ H fun vs H1 => ∃ a xs, vs = [.ref a] ∧ SqT K H1 a xs ∧ R (IteT K a) H1
theorem pi_enumT {X : Cx} {e : Expr} {ta : TA} {p pos tpos : Pos} {elts : List Expr} {kk : Nat} (hg : Gl X "enumerate") (hm : X.mg "enumerate" = none) (ha : PA X [e] ta) (hs : starEach [e] X.env = [(false, eval e X.env)] := by rfl) :
    PI X (.Tuple elts kk tpos) (.Call (.Name "enumerate" p) [e] [] pos) (iEnumT X.K ta) := by
  refine ⟨fun pins s σ H R I h => ?_⟩
  refine Call_ (ld_blt I hg hm boot_enumerate (PyProof.Rows.callWith_type1 (thn (ha.run pos pins s σ H _ I h) fun us s1 ⟨vs, H1, I1, r1, q1⟩ => ?_) hs rfl))
  obtain ⟨a, xs, ex, hq, q⟩ := q1
  subst ex
  cases r1 with
  | cons r rr =>
    cases rr
    cases r
    obtain ⟨its, rv, p', hz⟩ := I1.tuple hq
    refine call_enumerate_tuple (show s1.heap.IsTuple a its.toArray from p') fun h' he hit hsz hk => wpAny_pyIter_enum he ?_
    have I2 : Inv X pins σ H1 { s1 with heap := h' } := I1.kept (t' := s1.toks) hk
    refine ⟨s1.heap.objs.size + 1, [s1.heap.objs.size + 1, s1.heap.objs.size], _, _, H1, rfl, I2, turn_enumT a (s1.heap.objs.size + 1) s1.heap.objs.size, ⟨⟨.none, he⟩, hit, Nat.succ_ne_self _⟩, fun b hb => ?_, q⟩
    have e' : b = s1.heap.objs.size + 1 ∨ b = s1.heap.objs.size := by simpa using hb
    have hle : s1.heap.objs.size ≤ b := by
      rcases e' with z | z
      · rw [z]; exact Nat.le_add_right _ _
      · rw [z]; exact Nat.le_refl _
    exact I1.fpOk hle (I1.hok.fresh hle)
/-! ### pairs that are walked -/
def enD : Nat → List D → List D
  | _, [] => []
  | i, d :: ds => .tup [.int i, d] :: enD (i + 1) ds
theorem enD_length : ∀ (k : Nat) (ds : List D), (enD k ds).length = ds.length
  | _, [] => rfl
  | k, d :: ds => by unfold enD; rw [List.length_cons, List.length_cons, enD_length]
theorem enD_get : ∀ (k i : Nat) (ds : List D), (enD k ds)[i]? = ds[i]?.map fun d => .tup [.int ((k + i : Nat) : Int), d]
  | _, _, [] => rfl
  | k, 0, d :: ds => rfl
  | k, i + 1, d :: ds => by
    unfold enD
    rw [List.getElem?_cons_succ, List.getElem?_cons_succ, enD_get (k + 1) i ds, show k + 1 + i = k + (i + 1) by omega]
section
variable {ω : Type} {C : Cn ω} {Z : Addr → Prop} {Γ : List Sl} {σ : L2.St} {Hs H : Hp} {md : Md} {K : PySem.W.Frag} {O A : Addr → Prop}
theorem pair_rep {H2 : Hp} {T : Addr} {x y : V} {d e : D} {O' : Addr → Prop} (hT : H2 T = none) (r1 : Rep H2 d O' x) (r2 : Rep H2 e O' y) : Rep (upd H2 T (.tup [x, y])) (.tup [d, e]) O' (.ref T) :=
  ⟨T, [x, y], rfl, upd_same, x, [y], rfl, Rep.move d r1 (fun _ _ z => z) (fun b o h _ => same_new hT b o h) (fun b vs h => same_new hT b _ h), y, [], rfl, Rep.move e r2 (fun _ _ z => z) (fun b o h _ => same_new hT b o h) (fun b vs h => same_new hT b _ h), rfl⟩
theorem walk_enL {ds : List D} {vs : List V} {a : Addr} (ha : H a = some (.lst vs)) (r : RepAll H ds A vs) (hO : ¬ O a) (hOA : ∀ b, O b → A b) : WalkD O A H (Ite K a) (enD 0 ds) := by
  have hw := walk_enum (K := K) (a := a) (xs := vs)
  refine ⟨fun i H2 e hi => hw.goes i H2 (by rw [enD_length] at hi; rw [r.length]; exact hi) (.of (e.keep a _ ha hO)), fun H2 e => ?_, fun i H2 x H3 e hi y => ?_⟩
  · have := hw.stops H2 (.of (e.keep a _ ha hO))
    rw [enD_length]
    rw [r.length] at this
    exact this
  · rw [enD_length] at hi
    obtain ⟨T, x1, x2, rfl, hT, rfl, e1, e2⟩ := hw.yields i H2 x H3 (by rw [r.length]; exact hi) (.of (e.keep a _ ha hO)) y
    obtain ⟨d, h1, h2⟩ := r.getV e2
    cases e1
    exact ⟨same_new hT, .tup [.int ((0 + i : Nat) : Int), d], by rw [enD_get, h1]; rfl, fun O' h => pair_rep hT (by simp [Rep]) (Rep.move d h2 (fun b hb z => h b hb z) (fun b o hb n => e.keep b o hb fun z => n (hOA b z)) e.tup)⟩
theorem walk_enT {ds : List D} {vs : List V} {a : Addr} (ha : H a = some (.tup vs)) (r : RepAll H ds A vs) (hOA : ∀ b, O b → A b) : WalkD O A H (IteT K a) (enD 0 ds) := by
  refine ⟨fun i H2 e hi => ?_, fun H2 e => ⟨vs, .of (e.tup a _ ha), by rw [enD_length, r.length]⟩, fun i H2 x H3 e hi y => ?_⟩
  · rw [enD_length] at hi
    have hi' : i < vs.length := by rw [r.length]; exact hi
    exact ⟨vs, vs[i], .of (e.tup a _ ha), List.getElem?_eq_getElem hi'⟩
  · obtain ⟨T, x2, rfl, hT, rfl, e2⟩ := y
    obtain ⟨d, h1, h2⟩ := r.getV (e2 vs (.of (e.tup a _ ha)))
    exact ⟨same_new hT, .tup [.int ((0 + i : Nat) : Int), d], by rw [enD_get, h1]; rfl, fun O' h => pair_rep hT (by simp [Rep]) (Rep.move d h2 (fun b hb z => h b hb z) (fun b o hb n => e.keep b o hb fun z => n (hOA b z)) e.tup)⟩
end
section
variable {X : Cx} {ω : Type} {C : Cn ω} {e e2 : Expr} {te : EM C} {ts : AM C} {pos p tpos : Pos} {elts : List Expr} {kk : Nat}
def iterEn (ts : AM C) : IM C := fun Γ w Q => ts Γ w fun ps w1 => ∃ m ds, (ps = [(m, .lst ds)] ∨ ps = [(m, .tup ds)]) ∧ Q m (enD 0 ds) w1
def iterEnL (ts : AM C) : IM C := fun Γ w Q => ts Γ w fun ps w1 => ∃ m ds, ps = [(m, .lst ds)] ∧ Q m (enD 0 ds) w1
def iterEnT (ts : AM C) : IM C := fun Γ w Q => ts Γ w fun ps w1 => ∃ m ds, ps = [(m, .tup ds)] ∧ Q m (enD 0 ds) w1
theorem vi_enumT (hm : X.mg "enumerate" = none) (ha : VA X C [e] ts) (hg : Gl X "enumerate" := by rfl) (hs : starEach [e] X.env = [(false, eval e X.env)] := by rfl) : VI X C (.Tuple elts kk tpos) (.Call (.Name "enumerate" p) [e] [] pos) (iterEnT ts) :=
  PIimp (pi_enumT hg hm ha hs) fun σ H Q ⟨Z, Γ, w, Q0, R, ht, hq⟩ => ⟨Z, Γ, w, _, R, ht, fun ps w1 vs H1 h1 e1 wr1 r1 => by
    obtain ⟨m, ds, rfl, h1⟩ := h1
    obtain ⟨v, rfl, r⟩ := r1.one
    obtain ⟨a, us, rfl, hl, q⟩ := RepM.tup (ds := ds) r
    have B := R.bs.ext e1
    exact ⟨a, us, rfl, .of hl, hq _ _ _ _ _ h1 e1 wr1 (walk_enT hl q fun b z => Av.w B z) fun hm => walk_enT hl q fun b z => Av.ow B z⟩⟩
theorem vi_enumL (hm : X.mg "enumerate" = none) (ha : VA X C [e] ts) (hg : Gl X "enumerate" := by rfl) (hs : starEach [e] X.env = [(false, eval e X.env)] := by rfl) : VI X C (.Tuple elts kk tpos) (.Call (.Name "enumerate" p) [e] [] pos) (iterEnL ts) :=
  PIimp (pi_enum hg hm ha hs) fun σ H Q ⟨Z, Γ, w, Q0, R, ht, hq⟩ => ⟨Z, Γ, w, _, R, ht, fun ps w1 vs H1 h1 e1 wr1 r1 => by
    obtain ⟨m, ds, rfl, h1⟩ := h1
    obtain ⟨v, rfl, r⟩ := r1.one
    have r : RepM C Z Γ σ H H1 m (.lst ds) v := r
    obtain ⟨a, us, rfl, hl, q⟩ := r.lst
    have B := R.bs.ext e1
    have ho := r.own_of B rfl (fun _ z => by cases z)
    exact ⟨a, us, rfl, .of hl, hq _ _ _ _ _ h1 e1 wr1 (walk_enL hl q ho.1 fun b z => Av.w B z) fun hm => walk_enL hl q (ho.2 hm) fun b z => Av.ow B z⟩⟩
end
/-! ### some more expressions -/
section
variable {X : Cx} {ω : Type} {C : Cn ω} {e e2 : Expr} {te : EM C} {ts : AM C} {pos p p2 : Pos}
def negM (te : EM C) : EM C := fun Γ w Q => te Γ w fun _ d w1 => ∃ i, d = .int i ∧ Q .F (.int (-i)) w1
theorem vneg (he : VE X C e te) : VE X C (.UnaryOp .USub e pos) (negM te) := PEimp (pe_un un_neg he) fun σ H Q ⟨Z, Γ, w, Q0, R, ht, hq⟩ => ⟨Z, Γ, w, _, R, ht, fun md d w1 v H1 h1 e1 wr1 r1 => by
  obtain ⟨i, rfl, h1⟩ := h1
  exact ⟨i, r1.any (R.bs.ext e1), hq _ _ _ _ _ h1 e1 wr1 (RepM.flat (d := .int (-i)) rfl)⟩⟩
def D.tyn : D → Option String
  | .non => some "NoneType" | .bl _ => some "bool" | .int _ => some "int" | .str _ => some "str" | .tup _ => some "tuple" | .lst _ => some "list" | .dct _ _ => some "dict" | .fdc _ => none | .ref _ => none | .ll _ _ => none
theorem Rep.ty {K : PySem.W.Frag} {H : Hp} {d : D} {O : Addr → Prop} {v : V} {t : String} (r : Rep H d O v) (h : d.tyn = some t) : TyOf K H v (.type t) := by
  cases d with
  | non => cases r; cases h; exact .non
  | bl b => cases r; cases h; exact .bl _
  | int i => cases r; cases h; exact .int _
  | str s => cases r; cases h; exact .str _
  | ref a => cases h
  | tup l => obtain ⟨a, vs, rfl, ha, _⟩ := r; cases h; exact .tup ha
  | lst l => obtain ⟨a, rfl, _, vs, ha, _⟩ := r; cases h; exact .lst ha
  | dct k l => obtain ⟨a, rfl, _, vs, ha, _⟩ := r; cases h; exact .dK ha
  | fdc ps => cases h
  | ll a bs => cases h
def isiM (T : String) (te : EM C) : EM C := fun Γ w Q => te Γ w fun _ d w1 => ∃ t b, d.tyn = some t ∧ kitB t T = some b ∧ Q .F (.bl b) w1
theorem visi {T : String} {y : Str} (hm : X.mg "isinstance" = none) (hm2 : X.mg y = none) (he : VE X C e te) (hg2 : Gl X y := by rfl) (hv2 : bootBuiltins y = some (.type T) := by decide +kernel) (hg : Gl X "isinstance" := by rfl) (hv : bootBuiltins "isinstance" = some (.builtin "isinstance") := by decide +kernel)
    (hn2 : y ≠ "__name__" := by decide) (hd2 : (y == ("__debug__" : Str)) = false := by decide)
    (hs1 : starEach [e, .Name y p2] X.env = (false, eval e X.env) :: starEach [.Name y p2] X.env := by rfl) (hs2 : starEach [.Name y p2] X.env = (false, eval (.Name y p2) X.env) :: starEach [] X.env := by rfl)
    (hpl : (backTo pos (starEach [.Name y p2] X.env)).any (·.1) = false := by rfl) : VE X C (.Call (.Name "isinstance" p) [e, .Name y p2] [] pos) (isiM T te) :=
  PEimp (pe_callB call_isi hg hm hv (pa_cons he (pa_cons (pe_bltn (v := .ty T) hg2 hm2 hv2 rfl hn2 hd2) pa_nil hs2) hs1) (by decide) (by decide) hs1 hpl) fun σ H Q ⟨Z, Γ, w, Q0, R, ht, hq⟩ => ⟨Z, Γ, w, _, R, ht, fun md d w1 v H1 h1 e1 wr1 r1 => by
    obtain ⟨t, b, h2, h3, h1⟩ := h1
    exact ⟨v, .ty T, .type t, .type T, b, rfl, .ty T, .base (Rep.ty (r1.any (R.bs.ext e1)) h2), kit_ty h3, hq _ _ _ _ _ h1 e1 wr1 (RepM.flat (d := .bl b) rfl)⟩⟩
end
/-- the built-in names that the text doesn't bind -/
structure Blt (mg : Str → Option Value) : Prop where
  len_ : mg "len" = none
  sum_ : mg "sum" = none
  max_ : mg "max" = none
  min_ : mg "min" = none
  range_ : mg "range" = none
  list_ : mg "list" = none
  tuple_ : mg "tuple" = none
  sorted_ : mg "sorted" = none
  int_ : mg "int" = none
  str_ : mg "str" = none
  isinstance_ : mg "isinstance" = none
  enumerate_ : mg "enumerate" = none
  zip_ : mg "zip" = none
  set_ : mg "set" = none
  dict_ : mg "dict" = none
  reversed_ : mg "reversed" = none
  bool_ : mg "bool" = none
end VS

namespace VS
open PySem PySem.Spec PyProof.Rows L2
/-! ### the law's draws: a list of a number, the script's numbers, a place -/
structure Rng where
  seed : Int
  cells : List Int
  at_ : Int
def Rng.den (r : Rng) : Int := if (r.cells.length : Int) > 1 then (r.cells.length : Int) else 1
def Rng.place (r : Rng) : Int := r.at_ % r.den
def Rng.cell (r : Rng) : Int := if r.cells = [] then 0 else r.cells.getD r.place.toNat 0
def Rng.next (r : Rng) (many : Int) : Int × Rng :=
  if 10 ^ 18 ≤ r.cell then (r.cell % many, { r with cells := r.cells.set r.place.toNat (r.cell / many) })
  else ((r.seed * 48271 + r.cell * 69621 + 11) % 2147483647 / 7 % many, { r with seed := (r.seed * 48271 + r.cell * 69621 + 11) % 2147483647, at_ := r.at_ + 1 })
def RW (ah ac : Addr) (r : Rng) (H : Hp) : Prop := H ah = some (.lst [.int r.seed, .ref ac, .int r.at_]) ∧ H ac = some (.lst (r.cells.map V.int))
abbrev PDW := List D → Rng → (D → Rng → Prop) → Prop
def spW (n : Nat) (frs : List Bool) (P : PDW) : Sp := fun vs H Q _ => ∃ (ah ac : Addr) (A : Addr → Prop) (ds : List D) (r : Rng) (Kp : D → Rng → Prop), ah ≠ ac ∧ RW ah ac r H ∧ (∀ b, A b → H b ≠ none) ∧ ds.length = n ∧
  Args H A (fun b => b = ah ∨ b = ac) (false :: frs) (.ref ah :: ds) vs ∧ P ds r Kp ∧ ∀ d r' v H', Kp d r' → Ext (fun b => b = ah ∨ b = ac) H H' → RW ah ac r' H' → Rep H' d A v → Q v H'
def rngC (ah ac : Addr) (A0 : Addr → Prop) (H0 : Hp) (hA : ∀ b, A0 b → H0 b ≠ none) (h1 : H0 ah ≠ none) (h2 : H0 ac ≠ none) : Cn Rng :=
  { W := fun b => b = ah ∨ b = ac, wr := RW ah ac, fr := fun w H H' h q => ⟨(h ah (.inl rfl)).trans q.1, (h ac (.inr rfl)).trans q.2⟩, A0 := A0, H0 := H0, hA := hA, hW := fun b h => h.elim (fun h => by rw [h]; exact h1) fun h => by rw [h]; exact h2, hdl := ah }
section
variable {P : Program} {w : World} {K : PySem.W.Frag} {mg : Str → Option Value} {base : Heap}
/-- THE RULE for a def that is handed the draws -/
theorem okW {x : Str} {st : Stmt} {N ps : List Str} {k n : Nat} {frs : List Bool} {P0 : PDW} (F : FnT K mg x st ps) (S : FnScope N ps (defScope st)) (hn : n + 1 = ps.length)
    (hb : ∀ (f : Addr) (cdv : Value) (A : Around) (outer : List Env) (s : Shared) (H : Hp) (E : XK) (ah ac : Addr) (A0 : Addr → Prop) (hA : ∀ b, A0 b → H b ≠ none) (h1 : H ah ≠ none) (h2 : H ac ≠ none), ah ≠ ac → Room k (A.deeper (envOfC x (defScope st) s.heap.objs.size f cdv)) →
      ∃ t : SM (rngC ah ac A0 H hA h1 h2), VSs (cxOf (L2.CX P w) P w K mg base N x (defScope st) f cdv A outer s H E) (rngC ah ac A0 H hA h1 h2) (defBody st) t ∧
        ∀ (ds : List D) (r : Rng) (Kp : D → Rng → Prop), ds.length = n → P0 ds r Kp → t ⟨fun _ r' => Kp .non r', fun d r' => Kp d r', fun _ _ => False, fun _ _ => False⟩ (startG N.length (false :: frs) (.ref ah :: ds)) r) : FnC P w K mg base x (k + 1) ps (spW n frs P0) := by
  obtain ⟨f, fd, hm, F, hB⟩ := F
  refine ⟨f, fd, hm, F.kp, hB, F.okX S (fun vs H Q E h => ?_) (fun cdv A outer s H vs Q E hr h => ?_)⟩
  · obtain ⟨ah, ac, A, ds, r, Kp, _, _, _, hl, ha, _⟩ := h
    rw [ha.length, List.length_cons, hl, hn]
  · obtain ⟨ah, ac, A0, ds, r, Kp, hne, hrw, hA, hl, ha, hP, hK⟩ := h
    have h1 : H ah ≠ none := by rw [hrw.1]; simp
    have h2 : H ac ≠ none := by rw [hrw.2]; simp
    obtain ⟨t, ht, hq⟩ := hb f cdv A outer s H E ah ac A0 hA h1 h2 hne hr
    refine ⟨_, ht, fun _ => False, startG N.length (false :: frs) (.ref ah :: ds), r, ⟨fun _ r' => Kp .non r', fun d r' => Kp d r', fun _ _ => False, fun _ _ => False⟩, ?_, hq ds r _ hl hP, ⟨fun Γ' w' σ' H' h R f => ?_, fun _ _ _ _ h _ _ => h.elim, fun _ _ _ _ h _ _ => h.elim, fun d w' v H' h e wr r => hK d w' v H' h e wr r⟩⟩
    · refine start_rel (C := rngC ah ac A0 H hA h1 h2) ?_ hrw ha
      have := S.pre
      have hp : (N.take ps.length).length = ps.length := by rw [this]
      rw [ha.length, List.length_cons, hl, hn]
      rw [List.length_take] at hp
      omega
    · exact hK .non w' .non H' h R.ext R.wr rfl
end
theorem ext_upd {W : Addr → Prop} {H H1 : Hp} {a : Addr} {us : List V} (e : Ext W H H1) (h : W a) (hl : ∃ vs, H1 a = some (.lst vs)) : Ext W H (upd H1 a (.lst us)) := by
  obtain ⟨vs, hl⟩ := hl
  refine ⟨fun b hb => ?_, fun b o hb n => ?_, fun b ts hb => ?_⟩
  · by_cases z : b = a
    · subst z; rw [upd_same]; simp
    · rw [upd_ne z]; exact e.dom b hb
  · rw [upd_ne fun z => n (by rw [z]; exact h)]; exact e.keep b o hb n
  · have q := e.tup b ts hb
    rw [upd_ne fun z => by rw [z, hl] at q; cases q]; exact q
theorem arePy_ints : ∀ ns : List Int, D.arePy (ns.map D.int) = true
  | [] => rfl
  | n :: ns => by
    show ((D.int n).isPy && D.arePy (ns.map D.int)) = true
    rw [arePy_ints ns]; rfl
theorem depths_ints : ∀ ns : List Int, D.depths (ns.map D.int) = 0
  | [] => rfl
  | n :: ns => by
    show Max.max (D.int n).depth (D.depths (ns.map D.int)) = 0
    rw [depths_ints ns]; rfl
theorem ixN_ok {n : Nat} {i : Int} (h0 : 0 ≤ i) (h1 : i < n) : ixN n i = some i.toNat := by
  unfold ixN
  rw [if_pos h0, if_pos h1]
/-- what _law_next tells -/
def p_l_next : PDW := fun ds r K => ∃ many : Int, ds = [.int many] ∧ 0 < many ∧ many < 1073741824 ∧ K (.int (r.next many).1) (r.next many).2
structure IsR (C : Cn Rng) (ac : Addr) : Prop where
  ne : C.hdl ≠ ac
  w : ∀ b, C.W b ↔ (b = C.hdl ∨ b = ac)
  wr : ∀ r H, C.wr r H ↔ RW C.hdl ac r H
def callW {C : Cn Rng} (n : Nat) (frs : List Bool) (P0 : PDW) (ts : AM C) : EM C := fun Γ w Q => ts Γ w fun ps w1 => ∃ m rest, ps = (m, .ref C.hdl) :: rest ∧ rest.length = n ∧ frOk frs rest = true ∧ P0 (rest.map (·.2)) w1 fun d w2 => Q .F d w2
section
variable {X : Cx} {C : Cn Rng}
theorem vcallW {x : Str} {k : Nat} {ps : List Str} {n : Nat} {frs : List Bool} {P0 : PDW} {e : Expr} {es : List Expr} {ts : AM C} {p pos : Pos} {ac : Addr} (F : FnC X.prog X.w X.K X.mg X.base x k ps (spW n frs P0)) (hC : IsR C ac) (hr : Room k X.A) (hp : Passes (L2.CX X.prog X.w) X E0) (ha : VA X C (e :: es) ts) (hg : Gl X x := by rfl) (hdb : (x == ("__debug__" : Str)) = false := by decide)
    (he : starEach (e :: es) X.env = (false, eval e X.env) :: starEach es X.env := by rfl) (hpl : (backTo pos (starEach es X.env)).any (·.1) = false := by rfl) : VE X C (.Call (.Name x p) (e :: es) [] pos) (callW n frs P0 ts) := by
  obtain ⟨f, fd, hm, hk, hB, F⟩ := F
  refine PEimp (pe_call (dvs := []) F hr hg hm hk hB .nil hp ha hdb he hpl) fun σ H Q ⟨Z, Γ, w, Q0, R, ht, hq⟩ => ⟨Z, Γ, w, _, R, ht, fun ps w1 vs H1 h1 e1 wr1 r1 => ?_⟩
  obtain ⟨m, rest, rfl, hl, hf, h1⟩ := h1
  have B := R.bs.ext e1
  refine ⟨C.hdl, ac, fun b => H b ≠ none, rest.map (·.2), w1, fun d w2 => Q0 .F d w2, hC.ne, (hC.wr w1 H1).mp wr1, fun b h => e1.dom b h, by simpa using hl, ?_, h1, fun d r' v H' hd g wr r => hq .F d r' v H' hd (e1.trans (g.mono fun b z => (hC.w b).mpr z)) ((hC.wr r' H').mpr wr) r⟩
  rw [List.append_nil]
  exact args_ok (ps := (m, .ref C.hdl) :: rest) (frs := false :: frs) B (fun b z => (hC.w b).mpr z) r1 (by unfold frOk; simp [hf])
end
/-! ### the law -/
def spLaw (K : PySem.W.Frag) : Sp := fun vs H Q _ => ∃ (a : Addr) (ns : List Int), vs = [.ref a] ∧ SqL K H a (ns.map V.int) ∧ ns.length ≤ 63 ∧ ∀ H', Q (.bl true) H'
def lawG (n : Nat) (ah : Addr) : List Sl := .no :: .val true (.ref ah) :: List.replicate (n - 2) .no
section
variable {P : Program} {w : World} {K : PySem.W.Frag} {mg : Str → Option Value} {base : Heap}
theorem okLaw {st st1 : Stmt} {rest : List Stmt} {N : List Str} {k : Nat} {f : Addr} {fd : FuncData} {seed : Int} (F : Fun K "law" "law" st f fd) (S : FnScope N ["_law_script"] (defScope st)) (hN : 2 ≤ N.length) (hst : defBody st = st1 :: rest) (m : ∀ C : Cn Rng, SM C)
    (hb : ∀ (cdv : Value) (A : Around) (outer : List Env) (s : Shared) (H : Hp) (E : XK), Room k (A.deeper (envOfC "law" (defScope st) s.heap.objs.size f cdv)) →
      PS (cxOf (L2.CX P w) P w K mg base N "law" (defScope st) f cdv A outer s H E) st1 (tAsg (tLst (tCons (tC (.int seed)) (tCons (tCB (fun xs H Q => ∃ p ys, xs = [.ref p] ∧ (SqL K H p ys ∨ SqT K H p ys) ∧ ∀ l, H l = none → Q (.ref l) (upd H l (.lst ys))) (tCons (tVar 0) tNil)) (tCons (tC (.int 0)) tNil)))) (gName 1)) ∧
      ∀ (ah ac : Addr) (A0 : Addr → Prop) (H0 : Hp) (hA : ∀ b, A0 b → H0 b ≠ none) (h1 : H0 ah ≠ none) (h2 : H0 ac ≠ none), ah ≠ ac → VSs (cxOf (L2.CX P w) P w K mg base N "law" (defScope st) f cdv A outer s H E) (rngC ah ac A0 H0 hA h1 h2) rest (m (rngC ah ac A0 H0 hA h1 h2)))
    (hr : ∀ (C : Cn Rng) (ns : List Int), ns.length ≤ 63 → m C ⟨fun _ _ => False, fun d _ => d = .bl true, fun _ _ => False, fun _ _ => False⟩ (lawG N.length C.hdl) ⟨seed, ns, 0⟩) : FnOk P w K mg base (L2.CX P w) (k + 1) f fd ["_law_script"] (spLaw K) := by
  refine F.okX S (fun vs H Q E h => ?_) (fun cdv A outer s H vs Q E hrm h => ?_)
  · obtain ⟨a, ns, rfl, _⟩ := h
    rfl
  · obtain ⟨a, ns, rfl, hS, hl, hq⟩ := h
    obtain ⟨h1, h2⟩ := hb cdv A outer s H E hrm
    rw [hst]
    refine ⟨_, pss_cons h1 (t := _) (u := fun D σ H' => ∃ (ah ac : Addr) (A0 : Addr → Prop) (H0 : Hp) (hA : ∀ b, A0 b → H0 b ≠ none) (q1 : H0 ah ≠ none) (q2 : H0 ac ≠ none), ah ≠ ac ∧ lS (rngC ah ac A0 H0 hA q1 q2) (m (rngC ah ac A0 H0 hA q1 q2)) D σ H') ⟨fun pins s' σ H' D I ⟨ah, ac, A0, H0, hA, q1, q2, hne, q⟩ => (h2 ah ac A0 H0 hA q1 q2 hne).run pins s' σ H' D I q⟩, ?_⟩
    refine ⟨.ref a, rfl, a, _, rfl, .inl hS, fun ac hac => ⟨by show 3 ≤ sizeLine; decide, fun ah hah => ?_⟩⟩
    have hne : ah ≠ ac := fun z => by rw [z, upd_same] at hah; cases hah
    have q1 : upd (upd H ac (.lst (ns.map V.int))) ah (.lst [.int seed, .ref ac, .int 0]) ah ≠ none := by rw [upd_same]; simp
    have q2 : upd (upd H ac (.lst (ns.map V.int))) ah (.lst [.int seed, .ref ac, .int 0]) ac ≠ none := by rw [upd_ne (Ne.symm hne), upd_same]; simp
    refine ⟨ah, ac, fun _ => False, _, fun _ z => z.elim, q1, q2, hne, fun _ => False, lawG N.length ah, ⟨seed, ns, 0⟩, ⟨fun _ _ => False, fun d _ => d = .bl true, fun _ _ => False, fun _ _ => False⟩, ?_, hr _ ns hl, ⟨fun _ _ _ _ z _ _ => z.elim, fun _ _ _ _ z _ _ => z.elim, fun _ _ _ _ z _ _ => z.elim, fun d w' v H' hd _ _ r => ?_⟩⟩
    · have sl : (L2.start N [V.ref a]).length = N.length := by unfold L2.start; simp; omega
      refine ⟨?_, ⟨upd_same, by rw [upd_ne (Ne.symm hne), upd_same]⟩, .refl _ _, fun _ z => z.elim, fun _ z => z.elim, fun i j di dj b z => ?_, fun i fr d z => ?_, fun i d z => ?_⟩
      · rw [List.length_set, sl]; unfold lawG; simp; omega
      · unfold lawG at z
        match i with
        | 0 => cases z
        | 1 => cases z
        | i + 2 =>
          rw [List.getElem?_cons_succ, List.getElem?_cons_succ, List.getElem?_replicate] at z
          split at z <;> cases z
      · unfold lawG at z
        match i with
        | 0 => cases z
        | 1 =>
          cases z
          refine ⟨.ref ah, ?_, rfl⟩
          rw [List.getElem?_set_self (by rw [sl]; omega)]
        | i + 2 =>
          rw [List.getElem?_cons_succ, List.getElem?_cons_succ, List.getElem?_replicate] at z
          split at z <;> cases z
      · unfold lawG at z
        match i with
        | 0 => cases z
        | 1 => cases z
        | i + 2 =>
          rw [List.getElem?_cons_succ, List.getElem?_cons_succ, List.getElem?_replicate] at z
          split at z <;> cases z
    · subst hd
      have e : v = .bl true := r
      rw [e]
      exact hq _
end
end VS

namespace VS
open PySem PySem.Spec PyProof.Rows L2
abbrev c_l_next {C : Cn Rng} (ts : AM C) : EM C := callW 1 [] p_l_next ts
/-! ### how meanings are read: one equation a form -/
section
variable {ω : Type} {C : Cn ω} {Γ : List Sl} {w : ω} {Q : Md → D → ω → Prop} {E : EndM C}
theorem x_seq (t u : SM C) : seqM t u E Γ w = t { E with nx := fun Γ' w' => u E Γ' w' } Γ w := rfl
theorem x_next : (nextM : SM C) E Γ w = E.nx Γ w := rfl
theorem x_if (A : BM C) (t u : SM C) : ifM A t u E Γ w = A Γ w fun k w1 => if k = true then t E Γ w1 else u E Γ w1 := rfl
theorem x_ret (te : EM C) : retM te E Γ w = te Γ w fun md d w1 => md.ok = true ∧ (md.fr || d.flat) = true ∧ E.rt d w1 := rfl
theorem x_asg (i : Nat) (te : EM C) : asgM (.nm i) te E Γ w = te Γ w fun md d w1 => md.ok = true ∧ E.nx (Γ.set i (.val (md.fr || d.flat) d)) w1 := rfl
theorem x_own (i : Nat) (te : EM C) : ownM i te E Γ w = te Γ w fun md d w1 => md = .F ∧ d.isC = true ∧ E.nx (Γ.set i (.own d)) w1 := rfl
theorem x_bin (f : F2) (ta tb : EM C) : binM f ta tb Γ w Q = ta Γ w fun m1 d1 w1 => tb Γ w1 fun m2 d2 w2 => f (m1, d1) (m2, d2) fun md d => Q md d w2 := rfl
theorem x_const (d : D) : (constM d : EM C) Γ w Q = Q .F d w := rfl
theorem x_test (t : EM C) (K : Bool → ω → Prop) : testM t Γ w K = t Γ w fun _ d w1 => ∃ k, d = .bl k ∧ K k w1 := rfl
theorem x_call (f : Fn) (ts : AM C) : callM f ts Γ w Q = ts Γ w fun ps w1 => f ps fun md d => Q md d w1 := rfl
theorem x_cons (te : EM C) (ts : AM C) (K : List (Md × D) → ω → Prop) : consA te ts Γ w K = te Γ w fun md d w1 => ts Γ w1 fun ps w2 => K ((md, d) :: ps) w2 := rfl
theorem x_nil (K : List (Md × D) → ω → Prop) : (nilA : AM C) Γ w K = K [] w := rfl
theorem x_frz (i : Nat) (t : SM C) : frzM i t E Γ w = t E (frz Γ i) w := rfl
theorem x_nameO {i : Nat} {d : D} (h : Γ[i]? = some (.own d)) : (nameM i : EM C) Γ w Q = Q .B d w := by unfold nameM; rw [h]
end
end VS
namespace VS
open PySem PySem.Spec PyProof.Rows L2
/-! ### loops by a word -/
section
variable {ω : Type} {C : Cn ω}
theorem loop_by {tg : Tg} {fr : Bool} {t : SM C} {E : EndM C} (I : Nat → List Sl → ω → Prop) : ∀ {ds : List D} {Γ : List Sl} {w : ω},
    (∀ (k : Nat) (d : D) (Γ : List Sl) (w : ω) (N : List Sl → ω → Prop), ds[k]? = some d → I k Γ w → (∀ Γ' w', I (k + 1) Γ' w' → N Γ' w') → tg.asg fr d Γ fun Γ' => t { E with nx := N, ct := N, bk := E.nx } Γ' w) →
    (∀ Γ w, I ds.length Γ w → E.nx Γ w) → I 0 Γ w → loopM tg fr t E ds Γ w := by
  intro ds
  suffices h : ∀ (es : List D) (j : Nat) (Γ : List Sl) (w : ω), (∀ (k : Nat) (d : D) (Γ : List Sl) (w : ω) (N : List Sl → ω → Prop), es[k]? = some d → I (j + k) Γ w → (∀ Γ' w', I (j + k + 1) Γ' w' → N Γ' w') → tg.asg fr d Γ fun Γ' => t { E with nx := N, ct := N, bk := E.nx } Γ' w) →
      (∀ Γ w, I (j + es.length) Γ w → E.nx Γ w) → I j Γ w → loopM tg fr t E es Γ w by
    intro Γ w hs hd h0
    exact h ds 0 Γ w (fun k d Γ w N h1 h2 h3 => hs k d Γ w N h1 (by rw [Nat.zero_add] at h2; exact h2) (by rw [Nat.zero_add] at h3; exact h3)) (by rw [Nat.zero_add]; exact hd) h0
  intro es
  induction es with
  | nil => intro j Γ w _ hd h0; exact hd Γ w h0
  | cons d es ih =>
    intro j Γ w hs hd h0
    refine hs 0 d Γ w (loopM tg fr t E es) rfl h0 fun Γ' w' h1 => ?_
    refine ih (j + 1) Γ' w' (fun k d Γ w N h1 h2 h3 => hs (k + 1) d Γ w N (by simpa using h1) (by rw [show j + (k + 1) = j + 1 + k by omega]; exact h2) (by rw [show j + (k + 1) + 1 = j + 1 + k + 1 by omega]; exact h3)) (by rw [List.length_cons] at hd; rw [show j + 1 + es.length = j + (es.length + 1) by omega]; exact hd) h1
theorem lc_by {tg : Tg} {fr : Bool} {tt : BM C} {te : EM C} {Γ : List Sl} {K : Md → List D → ω → Prop} (I : Nat → ω → Md → List D → Prop) : ∀ {ds : List D} {w : ω},
    (∀ (k : Nat) (d : D) (w : ω) (m : Md) (acc : List D) (N : ω → Md → List D → Prop), ds[k]? = some d → I k w m acc → (∀ w' m' acc', I (k + 1) w' m' acc' → N w' m' acc') →
      tg.asg fr d Γ fun Γ' => tt Γ' w fun b w1 => if b = true then te Γ' w1 fun md e w2 => md.ok = true ∧ acc.length < 1000000 ∧ N w2 (m.max (nm md e)) (acc ++ [e]) else N w1 m acc) →
    (∀ w m acc, I ds.length w m acc → K m acc w) → I 0 w .F [] → lcLoop tg fr tt te Γ K ds w .F [] := by
  intro ds
  suffices h : ∀ (es : List D) (j : Nat) (w : ω) (m : Md) (acc : List D), (∀ (k : Nat) (d : D) (w : ω) (m : Md) (acc : List D) (N : ω → Md → List D → Prop), es[k]? = some d → I (j + k) w m acc → (∀ w' m' acc', I (j + k + 1) w' m' acc' → N w' m' acc') →
      tg.asg fr d Γ fun Γ' => tt Γ' w fun b w1 => if b = true then te Γ' w1 fun md e w2 => md.ok = true ∧ acc.length < 1000000 ∧ N w2 (m.max (nm md e)) (acc ++ [e]) else N w1 m acc) →
      (∀ w m acc, I (j + es.length) w m acc → K m acc w) → I j w m acc → lcLoop tg fr tt te Γ K es w m acc by
    intro w hs hd h0
    exact h ds 0 w .F [] (fun k d w m acc N h1 h2 h3 => hs k d w m acc N h1 (by rw [Nat.zero_add] at h2; exact h2) (by rw [Nat.zero_add] at h3; exact h3)) (by rw [Nat.zero_add]; exact hd) h0
  intro es
  induction es with
  | nil => intro j w m acc _ hd h0; exact hd w m acc h0
  | cons d es ih =>
    intro j w m acc hs hd h0
    refine hs 0 d w m acc (fun w m acc => lcLoop tg fr tt te Γ K es w m acc) rfl h0 fun w' m' acc' h1 => ?_
    refine ih (j + 1) w' m' acc' (fun k d w m acc N h1 h2 h3 => hs (k + 1) d w m acc N (by simpa using h1) (by rw [show j + (k + 1) = j + 1 + k by omega]; exact h2) (by rw [show j + (k + 1) + 1 = j + 1 + k + 1 by omega]; exact h3)) (by rw [List.length_cons] at hd; rw [show j + 1 + es.length = j + (es.length + 1) by omega]; exact hd) h1
/-- a comprehension whose items are values g of what is walked -/
theorem lc_map {tg : Tg} {fr : Bool} {te : EM C} {Γ : List Sl} {K : Md → List D → ω → Prop} (g : D → D) {ds : List D} {w : ω} (hf : ∀ d ∈ ds, (g d).flat = true) (hl : ds.length < 1000000)
    (hs : ∀ d ∈ ds, ∀ N : Md → D → ω → Prop, (∀ md, md.ok = true → N md (g d) w) → tg.asg fr d Γ fun Γ' => te Γ' w N) (hd : K .F (ds.map g) w) : lcLoop tg fr (yesM : BM C) te Γ K ds w .F [] := by
  refine lc_by (fun k w' m acc => w' = w ∧ m = .F ∧ acc = (ds.take k).map g) (fun k d w' m acc N h1 h2 h3 => ?_) (fun w' m acc h => ?_) ⟨rfl, rfl, rfl⟩
  · obtain ⟨rfl, rfl, rfl⟩ := h2
    have hm : d ∈ ds := List.mem_of_getElem? h1
    have hk : k < ds.length := (List.getElem?_eq_some_iff.mp h1).1
    have key := hs d hm (fun md e w2 => md.ok = true ∧ ((ds.take k).map g).length < 1000000 ∧ N w2 (Md.F.max (nm md e)) ((ds.take k).map g ++ [e])) (fun md ho => ⟨ho, by simp; omega, h3 _ _ _ ⟨rfl, by unfold nm; rw [if_pos (hf d hm)]; rfl, by
      rw [List.take_add_one, h1, List.map_append]; rfl⟩⟩)
    exact key
  · obtain ⟨rfl, rfl, rfl⟩ := h
    rw [List.take_length]; exact hd
end
/-! ### lists of numbers -/
theorem at_ints {ns : List Int} {i : Int} (h0 : 0 ≤ i) (h1 : i < ns.length) : atI (ns.map D.int) i = some (.int (ns.getD i.toNat 0)) := by
  unfold atI
  rw [List.length_map, ixN_ok h0 h1]
  have : i.toNat < ns.length := by omega
  simp [this, List.getD_eq_getElem?_getD]
theorem rng_get {lo hi : Int} {k : Nat} {d : D} (h : (rngD lo hi)[k]? = some d) : d = .int (lo + k) ∧ (k : Int) < hi - lo := by
  unfold rngD at h
  rw [List.getElem?_map] at h
  cases e : (List.range (hi - lo).toNat)[k]? with
  | none => rw [e] at h; cases h
  | some j =>
    rw [e] at h
    obtain ⟨hk, hj⟩ := List.getElem?_eq_some_iff.mp e
    rw [List.length_range] at hk
    rw [List.getElem_range] at hj
    subst hj
    cases h
    exact ⟨rfl, by omega⟩
theorem rng_len (lo hi : Int) : (rngD lo hi).length = (hi - lo).toNat := by simp [rngD]
theorem flats_ints : ∀ ns : List Int, D.flats (ns.map D.int) = true
  | [] => rfl
  | n :: ns => by
    show ((D.int n).flat && D.flats (ns.map D.int)) = true
    rw [flats_ints ns]; rfl
theorem nmL_ints (m : Md) (ns : List Int) : nmL m (ns.map D.int) = .F := by unfold nmL; rw [if_pos (flats_ints ns)]
theorem set_ints (ns : List Int) (k : Nat) (x : Int) : (ns.map D.int).set k (.int x) = (ns.set k x).map D.int := by rw [List.map_set]
theorem cmp_ints (ns : List Int) : (D.lst (ns.map D.int)).cmp := ⟨by show D.arePy _ = true; exact arePy_ints ns, by show D.depths _ + 1 ≤ 64; rw [depths_ints]; decide⟩
theorem cmp_int (i : Int) : (D.int i).cmp := ⟨rfl, by show 0 ≤ 64; decide⟩
theorem eqv_int (i j : Int) : (D.int i).eqv (.int j) = decide (i = j) := by
  show (i == j) = decide (i = j)
  rw [Bool.beq_eq_decide_eq]
theorem eqvs_ints : ∀ ns ms : List Int, PyData.eqvAll (D.pys (ns.map D.int)) (D.pys (ms.map D.int)) = decide (ns = ms)
  | [], [] => rfl
  | [], _ :: _ => by simp [D.pys, PyData.eqvAll]
  | _ :: _, [] => by simp [D.pys, PyData.eqvAll]
  | n :: ns, m :: ms => by
    show ((D.int n).eqv (.int m) && PyData.eqvAll (D.pys (ns.map D.int)) (D.pys (ms.map D.int))) = _
    rw [eqv_int, eqvs_ints ns ms]
    by_cases h : n = m <;> by_cases h' : ns = ms <;> simp [h, h']
theorem eqv_ints (ns ms : List Int) : (D.lst (ns.map D.int)).eqv (.lst (ms.map D.int)) = decide (ns = ms) := eqvs_ints ns ms
end VS

namespace VS
open PySem PySem.Spec PyProof.Rows L2
/-! ### draws -/
theorem next_rng (r : Rng) {n : Int} (h : 0 < n) : 0 ≤ (r.next n).1 ∧ (r.next n).1 < n := by
  unfold Rng.next
  split
  · exact ⟨Int.emod_nonneg _ (by omega), Int.emod_lt_of_pos _ h⟩
  · exact ⟨Int.emod_nonneg _ (by omega), Int.emod_lt_of_pos _ h⟩
theorem draw {n : Int} {r : Rng} {K : D → Rng → Prop} (h0 : 0 < n) (h1 : n < 1073741824) (hk : ∀ v r', 0 ≤ v → v < n → K (.int v) r') : p_l_next [.int n] r K :=
  ⟨n, rfl, h0, h1, hk _ _ (next_rng r h0).1 (next_rng r h0).2⟩
section
variable {ω : Type} {C : Cn ω}
/-- a comprehension whose items are whole numbers with P, the world going on -/
theorem lc_ints {tg : Tg} {fr : Bool} {te : EM C} {Γ : List Sl} {K : Md → List D → ω → Prop} (P : Int → Prop) {ds : List D} {w : ω} (hl : ds.length < 1000000)
    (hs : ∀ d ∈ ds, ∀ (w : ω) (N : Md → D → ω → Prop), (∀ md x w', md.ok = true → P x → N md (.int x) w') → tg.asg fr d Γ fun Γ' => te Γ' w N) (hd : ∀ (ns : List Int) w', ns.length = ds.length → (∀ x ∈ ns, P x) → K .F (ns.map D.int) w') : lcLoop tg fr (yesM : BM C) te Γ K ds w .F [] := by
  refine lc_by (fun k w' m acc => m = .F ∧ ∃ ns : List Int, acc = ns.map D.int ∧ ns.length = k ∧ ∀ x ∈ ns, P x) (fun k d w' m acc N h1 h2 h3 => ?_) (fun w' m acc h => ?_) ⟨rfl, [], rfl, rfl, fun _ h => by cases h⟩
  · obtain ⟨rfl, ns, rfl, hn, hp⟩ := h2
    have hm : d ∈ ds := List.mem_of_getElem? h1
    have hk : k < ds.length := (List.getElem?_eq_some_iff.mp h1).1
    exact hs d hm w' (fun md e w2 => md.ok = true ∧ (ns.map D.int).length < 1000000 ∧ N w2 (Md.F.max (nm md e)) (ns.map D.int ++ [e])) fun md x w2 ho hx => ⟨ho, by rw [List.length_map]; omega, h3 _ _ _ ⟨rfl, ns ++ [x], by rw [List.map_append]; rfl, by rw [List.length_append, hn]; rfl, fun y hy => by
      rcases List.mem_append.mp hy with hy | hy
      · exact hp y hy
      · rw [List.mem_singleton.mp hy]; exact hx⟩⟩
  · obtain ⟨rfl, ns, rfl, hn, hp⟩ := h
    exact hd ns w' hn hp
end
theorem kit_ll : kitB "list" "list" = some true := by decide +kernel
theorem kit_ib : kitB "int" "bool" = some false := by decide +kernel
theorem kit_ii : kitB "int" "int" = some true := by decide +kernel
theorem kit_bb : kitB "bool" "bool" = some true := by decide +kernel
theorem kit_tt : kitB "tuple" "tuple" = some true := by decide +kernel
theorem cmp_nil : (D.lst []).cmp := ⟨rfl, by show 1 ≤ 64; decide⟩
theorem eqv_len (a b : Nat) : (D.int (a : Int)).eqv (.int (b : Int)) = decide (a = b) := by
  rw [eqv_int]
  by_cases h : a = b
  · subst h; simp
  · have : ¬ (a : Int) = b := by omega
    simp [h, this]
end VS

/-! from the head's facts to what a walk takes -/
namespace VS
open PySem PySem.Spec PyProof.Rows L2
theorem funOf {K : PySem.W.Frag} {x qual : Str} {st : Stmt} {f : Addr} {fd : FuncData} (F : FunD K x qual (defArgs st) (defBody st) (defScope st) [] [] f fd) : Fun K x qual st f fd := by
  obtain ⟨oc, od, dV, kV, doc, pm, an, cdv, ct, osl, e, lk, hc, hD, hK⟩ := F.ex
  rcases hD with ⟨_, rfl⟩ | ⟨z, _⟩
  · exact ⟨⟨oc, od, kV, doc, pm, an, cdv, ct, osl, e, lk, hc⟩, F.kp⟩
  · exact absurd rfl z
def dOf (x : Str) (st : Stmt) : He.DefD := ⟨(x, none), x, x, defArgs st, defBody st, defScope st, [], []⟩
section
variable {K : PySem.W.Frag} {h : Heap} {mg : Str → Option Value} {fa : List He.Fa} {fn : List He.DefD}
theorem fnTOf (X : K.In h) (G : h.Ns mainGlobals mg) (c : He.SaysD fa fn K) (i : Nat) {x : Str} {st : Stmt} {ps : List Str} (hd : fn[i]? = some (dOf x st)) (hf : fa[i]? = some (.glo x))
    (hb : ∀ (kV doc pm : Value) (an : Option Addr) (cdv ct : Value) (us : List Value), us.length = ps.length → bindArgs (PySem.W.fnOf x x (defArgs st) (defBody st) (defScope st) .none kV doc pm an cdv ct) ⟨us, []⟩ = pure (ps.zip us)) : FnT K mg x st ps := by
  obtain ⟨fd, F⟩ := c.def_ i hd
  exact ⟨_, fd, He.glo_ok X G (c.fact i hf), funOf F, FunD.bindsN F hb⟩
abbrev bltN : List He.Fa := [.free "len", .free "sum", .free "max", .free "min", .free "range", .free "list", .free "tuple", .free "sorted", .free "int", .free "str", .free "isinstance", .free "enumerate", .free "zip", .free "set", .free "dict", .free "reversed", .free "bool"]
theorem bltOf (X : K.In h) (G : h.Ns mainGlobals mg) (c : He.SaysD fa fn K) (n : Nat) (e : fa.drop n = bltN) : Blt mg := by
  have q : ∀ (j : Nat) (x : Str), bltN[j]? = some (.free x) → mg x = none := fun j x hx => by
    rw [← e, List.getElem?_drop] at hx
    exact He.free_ok X G (c.fact (n + j) hx)
  exact ⟨q 0 _ rfl, q 1 _ rfl, q 2 _ rfl, q 3 _ rfl, q 4 _ rfl, q 5 _ rfl, q 6 _ rfl, q 7 _ rfl, q 8 _ rfl, q 9 _ rfl, q 10 _ rfl, q 11 _ rfl, q 12 _ rfl, q 13 _ rfl, q 14 _ rfl, q 15 _ rfl, q 16 _ rfl⟩
end
theorem walkW {l : PySem.W.OpenLaw} {n k : Nat} {q : Program} {loose : List Str} {XP : (Str → Option Value) → Heap → Prop}
    {YP : World → Heap → Prop} {d : DefRec} {x : Str} (hn : l.most = some n) (hn2 : n ≤ sizeLine) (hdf : d.params.defaults = []) (hr : Room k callerA)
    (F : ∀ (v : World) (gs : Str → Option Value) (a : Addr) (hp : Heap), YP v hp → hp.Ns mainGlobals gs → gs d.name = some (.ref a) →
      ∃ (K : PySem.W.Frag) (g : FuncData) (sp : Sp), K.In hp ∧ (∀ (s : Shared) (u : Value), BindsTo s g ⟨[u], []⟩ [(x, u)]) ∧
        (∀ (H : Hp) (b : Addr) (is : List Int), is.length ≤ n → SqL K H b (is.map V.int) → sp [.ref b] H (fun r _ => r = .bl true) fun _ _ _ => False) ∧
        ∀ base : Heap, K.In base → base.Ns mainGlobals gs → FnOk l.prog v K gs base (L2.CX l.prog v) k a g [x] sp) :
    PySem.W.WalkO q loose XP YP l.row.toRowW d [] (fun f vs => PySem.call f vs) := by
  apply Att.attach_call hn hdf
  intro v s0 s1 gs mb a o pm cd doc b vs is G Y ho hd hcd hgs hobj hints hlen hg
  obtain ⟨K, g, sp, KI, hb, hs, hF⟩ := F v gs a _ Y G.T.g hgs
  have hz := Nat.le_trans hlen hn2
  exact law_call KI G.T.g G.T.b G.T.builtins G.T.nolimit hg hobj hints hz hr hF hb (fun H _ z => hs H b is hlen z) fun _ _ _ ⟨_, _, _, _, _, _, _, _, _, _, _, _, z⟩ => z
end VS

/-! ### items of a dict: walked, sorted -/
namespace VS
open PySem PySem.Spec PyProof.Rows L2
section
variable {X : Cx} {pins : List (Addr × Obj)} {σ : L2.St} {H H2 : Hp} {s : Shared}
theorem Inv_more {h' : Heap} {t' : Nat} (I : Inv X pins σ H s) (k : ∀ b u, s.heap.get? b = some u → h'.get? b = some u) (hs : ∀ b, b < s.heap.objs.size → H2 b = H b)
    (new : ∀ b o, s.heap.objs.size ≤ b → H2 b = some o → ObjOk X.prog X.w H2 h' b o) : Inv X pins σ H2 { s with heap := h', toks := t' } := by
  have lt : ∀ {b o}, H b = some o → H2 b = some o := fun {b o} e => by rw [hs b (I.hok.lt e)]; exact e
  refine I.un ⟨fun b o q _ _ _ => k b o q, fun b o q _ _ _ => ⟨o.slots, k b o q⟩, fun b o q n _ => by rw [hs b (Heap.lt_size q)]; exact n, fun b o q _ => ⟨o, k b o q⟩, fun b xs e => lt e, fun b o u e => lt e, fun b ps e => ⟨#[], by rw [lt e]; simp⟩⟩ fun b o e => ?_
  by_cases hb : b < s.heap.objs.size
  · rw [hs b hb] at e
    exact (I.hok b o e).stay (fun c u _ q => k c u q) (fun c e => lt e) fun c xs e => lt e
  · exact new b o (Nat.le_of_not_lt hb) e
end
/-- the two ints of a pair, as the heap has them -/
def prOf (h : Heap) : Value → Int × Int
  | .ref a => (match h.get? a with
    | some o => (match o.data with
      | .seq xs _ => (match xs.toList with
        | [.int i _, .int j _] => (i, j)
        | _ => (0, 0))
      | _ => (0, 0))
    | none => (0, 0))
  | _ => (0, 0)
theorem prOf_ref {h : Heap} {a : Addr} {z : Int × Int} {t1 t2 : Tok} (e : h.get? a = some { cls := .type "tuple", data := .seq #[.int z.1 t1, .int z.2 t2] }) : prOf h (.ref a) = z := by
  show (match h.get? a with | some o => _ | none => _) = z
  rw [e]
def pD (z : Int × Int) : D := .tup [.int z.1, .int z.2]
theorem pairs_rep {H : Hp} {O : Addr → Prop} {k : Value → Int × Int} : ∀ {out : List Value}, (∀ v ∈ out, ∃ a, v = .ref a ∧ H a = some (.tup [.int (k v).1, .int (k v).2])) → RepAll H ((out.map k).map pD) O (out.map backV)
  | [], _ => rfl
  | v :: out, h => by
    obtain ⟨a, rfl, ha⟩ := h v (List.mem_cons_self ..)
    exact ⟨_, _, rfl, ⟨a, _, rfl, ha, _, _, rfl, rfl, _, _, rfl, rfl, rfl⟩, pairs_rep fun u hu => h u (List.mem_cons_of_mem _ hu)⟩
/-- sorted(e.items()), e a dict of ints to ints -/
def tSI (td : TE) : TE := fun σ H Q => td σ H fun x H1 => ∃ (d : Addr) (ps : List (Int × Int)), x = .ref d ∧ H1 d = some (.dK (ps.map fun z : Int × Int => (.inl z.1, .int z.2))) ∧
  ∀ (zs : List (Int × Int)) (H2 : Hp) (p : Addr), zs.Perm ps → zs.Pairwise (fun x y => SrtO.lexB y x = false) → Same H1 H2 → Rep H2 (.lst (zs.map pD)) (fun b => H1 b ≠ none) (.ref p) → Q (.ref p) H2
section
variable {X : Cx} {e : Expr} {td : TE} {apos cpos p pos : Pos}
theorem kv_pairs : ∀ {ps : List (Int × Int)} {vs : List (Key × Value)}, KV (ps.map fun z : Int × Int => ((.inl z.1 : Key), V.int z.2)) vs → ∀ (j : Nat) (k : Key) (x : Value), vs[j]? = some (k, x) → ∃ z, ps[j]? = some z ∧ k = .inl z.1 ∧ ∃ t, x = .int z.2 t := fun {ps vs} h j k x hj => by
  have hl := Paired.length h
  rw [List.length_map] at hl
  have hlt : j < vs.length := (List.getElem?_eq_some_iff.mp hj).1
  have h1 : (ps.map fun z : Int × Int => ((.inl z.1 : Key), V.int z.2))[j]? = some (.inl (ps[j]'(by omega)).1, .int (ps[j]'(by omega)).2) := by
    rw [List.getElem?_map, List.getElem?_eq_getElem (by omega)]; rfl
  obtain ⟨b, e1, e2, e3⟩ := paired_get h h1
  rw [hj] at e1
  cases e1
  obtain ⟨t, e3⟩ := e3
  exact ⟨_, List.getElem?_eq_getElem (by omega), e2.symm, t, e3⟩
theorem sort_view {prog : Program} {w : World} {A : Around} {E : Value → Shared → Prop} {s : Shared} {r d : Addr} {kvs : List (Key × Value)} {ep : Nat} {ps : List (Int × Int)} {Q : Value → Shared → Prop} (hh : A.handled = none) (hv : s.heap.IsItemsView r d)
    (hm : s.heap.DictAt (mixKind prog w) d kvs ep) (hn : kvs.length ≤ sizeLine) (hl : ps.length = kvs.length) (hp : ∀ (j : Nat) (k : Key) (x : Value), kvs[j]? = some (k, x) → ∃ z, ps[j]? = some z ∧ k = .inl z.1 ∧ ∃ t, x = .int z.2 t)
    (h : ∀ (h' : Heap) (tk : Nat) (D : Addr) (out : List Value) (n : Nat), (∀ b o, s.heap.get? b = some o → h'.get? b = some o) → r < D → h'.get? D = some (seqObj "list" out.toArray n) → out.length ≤ sizeLine → (out.map (prOf h')).Perm ps →
      (out.map (prOf h')).Pairwise (fun x y => SrtO.lexB y x = false) → (∀ v ∈ out, ∃ a t1 t2, v = .ref a ∧ s.heap.objs.size ≤ a ∧ a ≠ D ∧ h'.get? a = some { cls := .type "tuple", data := .seq #[.int (prOf h' v).1 t1, .int (prOf h' v).2 t2] }) → Q (.ref D) { s with heap := h', toks := tk }) :
    wpAny (model prog w) A (call (.builtin "sorted") [.ref r]) Q E s := by
  refine Calls.call_function_entry kind_sorted plain_sorted entry_sorted (args_sorted1 _) ?_
  unfold Builtin.«sorted»
  refine wpAny_bind (m := checkCount "sorted" 1 1 _) (wpAny_pure ?_)
  refine wpAny_bind (PySem.W.kdx_collect (A := A.in1) (knd := mixKind prog w) (kvs := kvs) (ep := ep) hh hv hm hn fun h1 tk as hk hal hG => ?_)
  have hlen : (as.map Value.ref).length ≤ sizeLine := by rw [List.length_map, hal]; exact hn
  refine wpAny_bind (wpAny_newList ?_ hlen)
  have hpr : ∀ (j : Nat) (a : Addr), as[j]? = some a → ∃ z t1 t2, ps[j]? = some z ∧ h1.get? a = some { cls := .type "tuple", data := .seq #[.int z.1 t1, .int z.2 t2] } := fun j a e => by
    obtain ⟨key, k, x, e1, e2, e3⟩ := hG.pairs j a e
    obtain ⟨z, z1, rfl, t2, rfl⟩ := hp j k x e1
    obtain ⟨t1, rfl⟩ := relV_key (k := .inl z.1) (u := key) e2
    exact ⟨z, t1, t2, z1, e3⟩
  have hmem : ∀ a ∈ as, ∃ t1 t2, h1.get? a = some { cls := .type "tuple", data := .seq #[.int (prOf h1 (.ref a)).1 t1, .int (prOf h1 (.ref a)).2 t2] } := fun a ha => by
    obtain ⟨j, hj⟩ := List.mem_iff_getElem?.mp ha
    obtain ⟨z, t1, t2, _, e⟩ := hpr j a hj
    have e' : prOf h1 (.ref a) = z := prOf_ref e
    rw [e']; exact ⟨t1, t2, e⟩
  have hps : (as.map Value.ref).map (prOf h1) = ps := by
    refine List.ext_getElem? fun j => ?_
    by_cases hj : j < as.length
    · obtain ⟨z, t1, t2, e1, e⟩ := hpr j _ (List.getElem?_eq_getElem hj)
      have e' : prOf h1 (.ref as[j]) = z := prOf_ref e
      rw [List.getElem?_map, List.getElem?_map, List.getElem?_eq_getElem hj, e1, ← e']; rfl
    · rw [List.getElem?_eq_none (by simp; omega), List.getElem?_eq_none (by omega)]
  have hD : (h1.push { cls := .type "list", data := .seq (as.map Value.ref).toArray }).get? h1.objs.size = some (seqObj "list" (as.map Value.ref).toArray 0) := Heap.get?_push_size _ rfl
  have lt : ∀ a ∈ as, a < h1.objs.size := fun a ha => hG.there ha
  have sz : r < h1.objs.size := let ⟨_, ho, _⟩ := hv; Heap.lt_size (hk _ _ ho)
  have p1 : ∀ v ∈ as.map Value.ref, Srt.IsPair (h1.push { cls := .type "list", data := .seq (as.map Value.ref).toArray }) v (prOf h1 v).1 (prOf h1 v).2 := fun v hv => by
    obtain ⟨a, ha, rfl⟩ := List.mem_map.mp hv
    obtain ⟨t1, t2, e⟩ := hmem a ha
    exact ⟨a, _, t1, t2, _, rfl, Heap.get?_push_of_some _ e, rfl, rfl⟩
  refine wpAny_bind (wpAny_holding (wpAny_call_entry slot_list_sort ⟨_, hD, rfl⟩ entry_list_sort (SrtO.list_sort_ord (SrtO.swo_lex (prOf h1)) hD hlen (fun h2 => SrtO.pairs_sortableO (by omega) p1 fun o e => ?_) fun out hs hb => ⟨_, rfl, ?_⟩) (args_list_sort _)))
  · have e' : some o = some (seqObj "list" (as.map Value.ref).toArray 0) := e.symm.trans hD
    cases e'
    intro c
    exact absurd (Value.type.inj c) (by decide)
  · obtain ⟨n, hn'⟩ := sortedHeap_at (vs := as.map Value.ref) (out := out.toArray) hD
    have old : ∀ b, b < h1.objs.size → (sortedHeap (h1.push { cls := .type "list", data := .seq (as.map Value.ref).toArray }) h1.objs.size (as.map Value.ref) out.toArray).get? b = h1.get? b := fun b hb => by
      rw [sortedHeap_old (Nat.ne_of_lt hb) (show b < (h1.push { cls := .type "list", data := .seq (as.map Value.ref).toArray }).objs.size from by rw [Heap.size_push]; exact Nat.lt_succ_of_lt hb), Heap.get?_push_ne _ _ _ (Nat.ne_of_lt hb)]
    have pe : ∀ v ∈ as.map Value.ref, prOf (sortedHeap (h1.push { cls := .type "list", data := .seq (as.map Value.ref).toArray }) h1.objs.size (as.map Value.ref) out.toArray) v = prOf h1 v := fun v hv => by
      obtain ⟨a, ha, rfl⟩ := List.mem_map.mp hv
      show (match Heap.get? _ a with | some o => _ | none => _) = (match h1.get? a with | some o => _ | none => _)
      rw [old a (lt a ha)]
    have pm : ∀ v ∈ out, v ∈ as.map Value.ref := fun v hv => hb.perm.mem_iff.mp hv
    have eo : out.map (prOf (sortedHeap (h1.push { cls := .type "list", data := .seq (as.map Value.ref).toArray }) h1.objs.size (as.map Value.ref) out.toArray)) = out.map (prOf h1) := List.map_congr_left fun v hv => pe v (pm v hv)
    refine wpAny_pure ⟨_, rfl, h _ tk _ out n (fun b o e => ?_) sz hn' (by rw [hb.perm.length_eq]; exact hlen) ?_ ?_ fun v hv => ?_⟩
    · have := hk b o e
      rw [old b (Heap.lt_size this)]; exact this
    · rw [eo, ← hps]; exact hb.perm.map _
    · rw [eo]; exact List.pairwise_map.mpr hs
    · have hv' := pm v hv
      rw [pe v hv']
      obtain ⟨a, ha, rfl⟩ := List.mem_map.mp hv'
      obtain ⟨t1, t2, e⟩ := hmem a ha
      exact ⟨a, t1, t2, rfl, Nat.le_of_lt (hG.above a ha), Nat.ne_of_lt (lt a ha), by rw [old a (lt a ha)]; exact e⟩
theorem pe_sortItems (he : PE X e td) (hm : X.mg "sorted" = none) (hcalm : X.calm = true := by rfl) (hg : Gl X "sorted" := by rfl) (hbase : attributeBase e "items" X.env (eval e X.env) = eval e X.env := by rfl) (hline : (apos.endLine == cpos.line) = true := by rfl)
    (hs : starEach [.Call (.Attribute e "items" apos) [] [] cpos] X.env = [(false, eval (.Call (.Attribute e "items" apos) [] [] cpos) X.env)] := by rfl) :
    PE X (.Call (.Name "sorted" p) [.Call (.Attribute e "items" apos) [] [] cpos] [] pos) (tSI td) := by
  refine ⟨fun pins s σ H Q I h => ?_⟩
  refine wpAny_Call_Name_kw (ld_blt I hg hm boot_sorted ?_)
  refine PyProof.Rows.callWith_builtin1 ?_ hs rfl
  rw [hs]
  show wpAny _ _ (spliced ((false, eval (.Call (.Attribute e "items" apos) [] [] cpos) X.env) :: [])) _ _ s
  refine Calls.spliced_cons ?_
  refine wpAny_Call_method (T := "dict") (id := "dict.items") hbase rfl hline F.plainAttrs_dict F.slot_dict_items F.type_dict_items (thn (he.run pins s σ H _ I h) fun u s1 ⟨x, H1, I1, rx, d, ps, ex, hd, q⟩ => ?_)
  subst ex
  obtain rfl : u = Value.ref d := rx
  obtain ⟨z, hsm, vs, kv, o', es, ep, ho, hx, hdt, r⟩ := I1.hok d _ hd
  have hdm : s1.heap.DictAt (mixKind X.prog X.w) d vs ep := ⟨o', es, ho, hx, hdt, r⟩
  refine ⟨hdm.dictOf.typeIs, hdm.dictOf.mapOf.noDict, ?_⟩
  have hh : X.A.handled = none := I1.ok.hd hcalm
  have fin : wpAny (model X.prog X.w) X.A (call (.builtin "sorted") [.ref s1.heap.objs.size]) (EP X pins σ Q) X.xe { s1 with heap := s1.heap.push { cls := .type "dict_items", data := .fields #[.ref d] } } := by
    have hl : ps.length = vs.length := by have := Paired.length kv; rw [List.length_map] at this; exact this
    have hz : vs.length ≤ sizeLine := by rw [← hl]; rw [List.length_map] at z; exact z
    refine sort_view (r := s1.heap.objs.size) (d := d) (kvs := vs) (ep := ep) (ps := ps) hh ⟨_, Heap.get?_push_size _ rfl, rfl, rfl⟩ (hdm.push _) hz hl (kv_pairs kv) fun h' tk D out n hk hD hO hlen hp hs' hv => ?_
    have hk1 : ∀ b o, s1.heap.get? b = some o → h'.get? b = some o := fun b o e => hk b o (Heap.get?_push_of_some _ e)
    have hv1 : ∀ v ∈ out, ∃ a t1 t2, v = .ref a ∧ s1.heap.objs.size ≤ a ∧ a ≠ D ∧ h'.get? a = some { cls := .type "tuple", data := .seq #[.int (prOf h' v).1 t1, .int (prOf h' v).2 t2] } := fun v hv' => by
      obtain ⟨a, t1, t2, e1, e2, e3, e4⟩ := hv v hv'
      exact ⟨a, t1, t2, e1, Nat.le_trans (by rw [Heap.size_push]; exact Nat.le_succ _) e2, e3, e4⟩
    obtain ⟨H2, hH2⟩ : ∃ H2 : Hp, H2 = fun b => if b < s1.heap.objs.size then H1 b else if b = D then some (.lst (out.map backV)) else if Value.ref b ∈ out then some (.tup [.int (prOf h' (.ref b)).1, .int (prOf h' (.ref b)).2]) else none := ⟨_, rfl⟩
    have f1 : ∀ b, b < s1.heap.objs.size → H2 b = H1 b := fun b hb => by rw [hH2]; exact if_pos hb
    have nD : ¬ D < s1.heap.objs.size := Nat.not_lt.mpr (Nat.le_of_lt hD)
    have f2 : H2 D = some (.lst (out.map backV)) := by rw [hH2]; show (if _ then _ else _) = _; rw [if_neg nD, if_pos rfl]
    have f3 : ∀ v ∈ out, ∃ a, v = .ref a ∧ H2 a = some (.tup [.int (prOf h' v).1, .int (prOf h' v).2]) := fun v hv' => by
      obtain ⟨a, t1, t2, rfl, e2, e3, _⟩ := hv1 v hv'
      refine ⟨a, rfl, ?_⟩
      rw [hH2]; show (if _ then _ else _) = _
      rw [if_neg (Nat.not_lt.mpr e2), if_neg e3, if_pos hv']
    have I2 : Inv X pins σ H2 { s1 with heap := h', toks := tk } := Inv_more I1 hk1 f1 fun b o hb e => by
      rw [hH2] at e
      change (if _ then _ else _) = _ at e
      rw [if_neg (Nat.not_lt.mpr hb)] at e
      by_cases z1 : b = D
      · rw [if_pos z1] at e
        cases e
        subst z1
        exact ⟨by rw [List.length_map]; exact hlen, out, n, vals_back fun u hu => (by obtain ⟨a, _, _, e, _⟩ := hv1 u hu; exact ⟨a, e⟩), hO⟩
      · rw [if_neg z1] at e
        by_cases z2 : Value.ref b ∈ out
        · rw [if_pos z2] at e
          cases e
          obtain ⟨a, t1, t2, e1, _, _, e4⟩ := hv1 _ z2
          cases e1
          exact ⟨by show 2 ≤ sizeLine; decide, [.int _ t1, .int _ t2], .cons ⟨t1, rfl⟩ (.cons ⟨t2, rfl⟩ .nil), _, e4, rfl, _, rfl⟩
        · rw [if_neg z2] at e; cases e
    have sm : Same H1 H2 := fun b o e => by rw [f1 b (I1.hok.lt e)]; exact e
    refine ⟨.ref D, H2, I2, rfl, q (out.map (prOf h')) H2 D hp hs' sm ⟨D, rfl, fun z => z (I1.hok.fresh (Nat.le_of_lt hD)), _, f2, pairs_rep f3⟩⟩
  show wpAny _ _ (callWith cpos (.builtin "dict.items") [.ref d] [] []) _ X.xe s1
  exact method_meetsIn F.slot_dict_items F.entry_dict_items rfl (PySem.evalArgs_none ⟨rfl, hdm.dictOf.typeIs, F.args_dict_items_1 _, _, meets_dict_items (mixKind X.prog X.w) d hsm, ⟨vs, hdm.dictOf⟩, Calls.spliced_nil fin⟩)
end
end VS

/-! ### items of a dict, zip: over data -/
namespace VS
open PySem PySem.Spec PyProof.Rows L2
theorem pairs_kvs {H : Hp} {O : Addr → Prop} : ∀ {ps : List (Int × Int)} {kvs : List (Key × V)}, kvs.map (·.1) = (ps.map (·.1)).map Sum.inl → RepAll H (ps.map fun z => .int z.2) O (kvs.map (·.2)) → kvs = ps.map fun z : Int × Int => (.inl z.1, .int z.2)
  | [], [], _, _ => rfl
  | [], _ :: _, e, _ => by cases e
  | _ :: _, [], e, _ => by cases e
  | z :: ps, (k, v) :: kvs, e, r => by
    obtain ⟨v', r', e1, e2, e3⟩ := r
    have hv : v' = .int z.2 := e2
    subst hv
    rw [List.map_cons] at e1
    injection e1 with e1 e4
    subst e4
    simp only [List.map_cons, List.cons.injEq] at e
    have e1 : v = .int z.2 := e1
    rw [List.map_cons, ← pairs_kvs (by simpa using e.2) e3, ← e1, show k = .inl z.1 from e.1]
def itD (ks : List Int) (vs : List D) : List D := List.zipWith (fun k v => .tup [.int k, v]) ks vs
def zipD (ds es : List D) : List D := List.zipWith (fun d e => .tup [d, e]) ds es
theorem D.flats_get : ∀ {ds : List D} {i : Nat} {d : D}, D.flats ds = true → ds[i]? = some d → d.flat = true
  | [], _, _, _, e => by cases e
  | x :: ds, 0, d, h, e => by
    cases e
    unfold D.flats at h
    exact (Bool.and_eq_true_iff.mp h).1
  | x :: ds, i + 1, d, h, e => by
    unfold D.flats at h
    exact D.flats_get (Bool.and_eq_true_iff.mp h).2 e
section
variable {ω : Type} {C : Cn ω} {Z : Addr → Prop} {Γ : List Sl} {σ : L2.St} {Hs H H1 : Hp} {md : Md} {K : PySem.W.Frag} {O A : Addr → Prop}
theorem walk_it {ks : List Int} {vs : List D} {kvs : List (Key × V)} {a : Addr} {od : Obj} (ha : H1 a = some (.dK kvs)) (hk : kvs.map (·.1) = ks.map Sum.inl) (r : RepAll H1 vs (fun b => A b ∨ b = a) (kvs.map (·.2))) (hO : ¬ O a) (hOA : ∀ b, O b → A b) :
    WalkD O A (upd H1 a (.frz od (.dK kvs))) (Iti a od kvs) (itD ks vs) := by
  have l1 : kvs.length = ks.length := by simpa using congrArg List.length hk
  have l2 : kvs.length = vs.length := by have := r.length; rw [List.length_map] at this; exact this
  have hn : (itD ks vs).length = kvs.length := by unfold itD; rw [List.length_zipWith]; omega
  have at2 : ∀ {H2 : Hp}, Ext O (upd H1 a (.frz od (.dK kvs))) H2 → H2 a = some (.frz od (.dK kvs)) := fun e => e.keep a _ upd_same hO
  refine ⟨fun i H2 e hi => ⟨at2 e, by rw [← hn]; exact hi⟩, fun H2 e => ⟨at2 e, by rw [hn]; exact Nat.le_refl _⟩, fun i H2 x H3 e hi y => ?_⟩
  obtain ⟨T, k, v, e1, rfl, hT, rfl⟩ := y
  have ek : ks[i]?.map Sum.inl = some k := by rw [← List.getElem?_map, ← hk, List.getElem?_map, e1]; rfl
  have ev : (kvs.map (·.2))[i]? = some v := by rw [List.getElem?_map, e1]; rfl
  obtain ⟨d, d1, d2⟩ := r.getV ev
  cases e2 : ks[i]? with
  | none => rw [e2] at ek; cases ek
  | some n =>
    rw [e2] at ek
    cases ek
    refine ⟨same_new hT, .tup [.int n, d], by unfold itD; rw [List.getElem?_zipWith, e2, d1], fun O' h => pair_rep hT rfl (Rep.move d d2 (fun b hb z => .inl (h b ?_ z)) (fun b o hb n => ?_) fun b xs hb => ?_)⟩
    · by_cases z : b = a
      · rw [z, upd_same]; simp
      · rw [upd_ne z]; exact hb
    · have z : b ≠ a := fun z => n (.inr z)
      exact e.keep b o (by rw [upd_ne z]; exact hb) fun q => n (.inl (hOA b q))
    · have z : b ≠ a := fun z => by rw [z, ha] at hb; cases hb
      exact e.tup b xs (by rw [upd_ne z]; exact hb)
theorem walk_zp {ds es : List D} {xs ys : List V} {a b : Addr} (ha : H a = some (.lst xs)) (hb : H b = some (.lst ys)) (r1 : RepAll H ds A xs) (r2 : RepAll H es A ys) (f1 : D.flats ds = true) (f2 : D.flats es = true) (hO : ¬ O a) (hO2 : ¬ O b) {A' : Addr → Prop} : WalkD O A' H (Itz K a b) (zipD ds es) := by
  have hn : (zipD ds es).length = min xs.length ys.length := by unfold zipD; rw [List.length_zipWith, r1.length, r2.length]
  have hw := walk_zip (K := K) (a := a) (b := b) (xs := xs) (ys := ys) hn
  refine ⟨fun i H2 e hi => hw.goes i H2 hi ⟨.of (e.keep a _ ha hO), .of (e.keep b _ hb hO2)⟩, fun H2 e => hw.stops H2 ⟨.of (e.keep a _ ha hO), .of (e.keep b _ hb hO2)⟩, fun i H2 x H3 e hi y => ?_⟩
  obtain ⟨T, x1, x2, rfl, hT, rfl, e1, e2⟩ := hw.yields i H2 x H3 hi ⟨.of (e.keep a _ ha hO), .of (e.keep b _ hb hO2)⟩ y
  obtain ⟨d, d1, d2⟩ := r1.getV e1
  obtain ⟨d', d3, d4⟩ := r2.getV e2
  refine ⟨same_new hT, .tup [d, d'], by unfold zipD; rw [List.getElem?_zipWith, d1, d3], fun O' h => ?_⟩
  have g1 : Rep H2 d (fun _ => True) x1 := Rep.move d (Rep.flat d (D.flats_get f1 d1) d2) (fun _ _ z => z) (fun _ _ _ n => absurd trivial n) e.tup
  have g2 : Rep H2 d' (fun _ => True) x2 := Rep.move d' (Rep.flat d' (D.flats_get f2 d3) d4) (fun _ _ z => z) (fun _ _ _ n => absurd trivial n) e.tup
  exact pair_rep hT (Rep.flat d (D.flats_get f1 d1) g1) (Rep.flat d' (D.flats_get f2 d3) g2)
end
section
variable {X : Cx} {ω : Type} {C : Cn ω} {e e2 : Expr} {te : EM C} {ts : AM C} {td : TE} {apos cpos pos p tpos : Pos} {elts : List Expr} {kk : Nat}
theorem pe_locked (he : PE X e td) : PE X e (fun σ H Q => td σ H fun x H1 => ∃ (d : Addr) (kvs : List (Key × V)), x = .ref d ∧ H1 d = some (.dK kvs) ∧ ∀ od, Q x (upd H1 d (.frz od (.dK kvs)))) :=
  ⟨fun pins s σ H Q I h => thn (he.run pins s σ H _ I h) fun u s1 ⟨x, H1, I1, rx, d, kvs, ex, hd, q⟩ => by
    obtain ⟨od, I2⟩ := I1.lock hd trivial
    exact ⟨x, _, I2, rx, q od⟩⟩
/-- .. in e.items(), e a dict that nobody else holds -/
def iterItems (te : EM C) : IM C := fun Γ w Q => te Γ w fun md d w1 => md = .F ∧ ∃ ks vs, d = .dct ks vs ∧ Q .F (itD ks vs) w1
theorem vi_items (he : VE X C e te) (hbase : attributeBase e "items" X.env (eval e X.env) = eval e X.env := by rfl) (hline : (apos.endLine == cpos.line) = true := by rfl) :
    VI X C (.Tuple elts kk tpos) (.Call (.Attribute e "items" apos) [] [] cpos) (iterItems te) :=
  PIimp (pi_items (pe_locked he) hbase hline) fun σ H Q ⟨Z, Γ, w, Q0, R, ht, hq⟩ => ⟨Z, Γ, w, _, R, ht, fun md d w1 v H1 h1 e1 wr1 r1 => by
    obtain ⟨rfl, ks, vs, rfl, h1⟩ := h1
    obtain ⟨a, rfl, hn, kvs, ha, hk, r⟩ := r1
    have hna : H a = none := by
      cases z : H a with
      | none => rfl
      | some o => exact absurd (show H a ≠ none from by rw [z]; simp) hn
    have B := R.bs
    have nW : ∀ b, C.W b → b ≠ a := fun b hb z => by subst z; exact B.sub b (.inl (.inl hb)) hna
    refine ⟨a, kvs, rfl, ha, fun od => ⟨a, od, kvs, rfl, upd_same, hq .F (itD ks vs) w1 _ _ h1 ⟨fun b hb => ?_, fun b o hb n => ?_, fun b xs hb => ?_⟩ (C.fr w1 H1 _ (fun b hb => by rw [upd_ne (nW b hb)]) wr1)
      (walk_it ha hk r (fun z => nW a z rfl) fun b hb => B.sub b (.inl (.inl hb))) fun _ => walk_it ha hk r (fun z => B.sub a (.inl z) hna) fun b hb => B.sub b (.inl hb)⟩⟩
    · by_cases z : b = a
      · rw [z, upd_same]; simp
      · rw [upd_ne z]; exact e1.dom b hb
    · rw [upd_ne (fun z => by rw [z, hna] at hb; cases hb)]; exact e1.keep b o hb n
    · rw [upd_ne (fun z => by rw [z, hna] at hb; cases hb)]; exact e1.tup b xs hb⟩
/-- zip of two lists of flat things -/
def iterZ (ts : AM C) : IM C := fun Γ w Q => ts Γ w fun ps w1 => ∃ m1 m2 ds es, ps = [(m1, .lst ds), (m2, .lst es)] ∧ D.flats ds = true ∧ D.flats es = true ∧ Q (if (m1.ok && m2.ok) = true then .F else .B) (zipD ds es) w1
theorem vi_zip (hm : X.mg "zip" = none) (ha : VA X C [e, e2] ts) (hg : Gl X "zip" := by rfl) (hs : starEach [e, e2] X.env = (false, eval e X.env) :: starEach [e2] X.env := by rfl) (hpl : (backTo pos (starEach [e2] X.env)).any (·.1) = false := by rfl) :
    VI X C (.Tuple elts kk tpos) (.Call (.Name "zip" p) [e, e2] [] pos) (iterZ ts) :=
  PIimp (RZ.pi_zipA hg hm ha hs hpl) fun σ H Q ⟨Z, Γ, w, Q0, R, ht, hq⟩ => ⟨Z, Γ, w, _, R, ht, fun ps w1 vs H1 h1 e1 wr1 r1 => by
    obtain ⟨m1, m2, ds, es, rfl, f1, f2, h1⟩ := h1
    obtain ⟨v, u, rfl, r, r'⟩ := r1.two
    have r : RepM C Z Γ σ H H1 m1 (.lst ds) v := r
    have r' : RepM C Z Γ σ H H1 m2 (.lst es) u := r'
    obtain ⟨a, xs, rfl, hl, q⟩ := r.lst
    obtain ⟨b, ys, rfl, hl', q'⟩ := r'.lst
    have B := R.bs.ext e1
    have ho := r.own_of B rfl (fun _ z => by cases z)
    have ho' := r'.own_of B rfl (fun _ z => by cases z)
    have q1 := RepAll.flat (O' := fun _ => True) ds f1 q
    have q2 := RepAll.flat (O' := fun _ => True) es f2 q'
    refine ⟨a, b, xs, ys, rfl, .inl ⟨.of hl, .of hl', hq _ _ _ _ _ h1 e1 wr1 (walk_zp hl hl' q1 q2 f1 f2 ho.1 ho'.1) fun hm => ?_⟩⟩
    by_cases z : (m1.ok && m2.ok) = true
    · obtain ⟨z1, z2⟩ := Bool.and_eq_true_iff.mp z
      exact walk_zp hl hl' q1 q2 f1 f2 (ho.2 z1) (ho'.2 z2)
    · rw [if_neg z] at hm; cases hm⟩
/-- sorted(e.items()) -/
def sortItemsM (te : EM C) : EM C := fun Γ w Q => te Γ w fun _ d w1 => ∃ ps : List (Int × Int), d = .dct (ps.map (·.1)) (ps.map fun z => .int z.2) ∧ ∀ zs : List (Int × Int), zs.Perm ps → zs.Pairwise (fun x y => SrtO.lexB y x = false) → Q .F (.lst (zs.map pD)) w1
theorem vsortItems (hm : X.mg "sorted" = none) (he : VE X C e te) (hcalm : X.calm = true := by rfl) (hg : Gl X "sorted" := by rfl) (hbase : attributeBase e "items" X.env (eval e X.env) = eval e X.env := by rfl) (hline : (apos.endLine == cpos.line) = true := by rfl)
    (hs : starEach [.Call (.Attribute e "items" apos) [] [] cpos] X.env = [(false, eval (.Call (.Attribute e "items" apos) [] [] cpos) X.env)] := by rfl) :
    VE X C (.Call (.Name "sorted" p) [.Call (.Attribute e "items" apos) [] [] cpos] [] pos) (sortItemsM te) :=
  PEimp (pe_sortItems he hm hcalm hg hbase hline hs) fun σ H Q ⟨Z, Γ, w, Q0, R, ht, hq⟩ => ⟨Z, Γ, w, _, R, ht, fun md d w1 v H1 h1 e1 wr1 r1 => by
    obtain ⟨ps, rfl, h1⟩ := h1
    obtain ⟨a, rfl, hn, kvs, ha, hk, r⟩ := r1.any (R.bs.ext e1)
    have ek := pairs_kvs hk r
    subst ek
    refine ⟨a, ps, rfl, ha, fun zs H2 p pm pw sm rp => hq _ _ _ _ _ (h1 zs pm pw) (e1.trans (.same sm)) (C.fr w1 H1 H2 (fun b hb => ?_) wr1) (Rep.move _ rp (fun b _ z => e1.dom b z) (fun _ _ h _ => h) fun _ _ h => h)⟩
    have hb' := e1.dom b (R.bs.sub b (.inl (.inl hb)))
    cases z : H1 b with
    | none => exact absurd z hb'
    | some o => exact sm b o z⟩
end
end VS

/-! ### a dict locked for good; list of a range -/
namespace VS
open PySem PySem.Spec PyProof.Rows L2
abbrev kvI (ps : List (Int × Int)) : List (Key × V) := ps.map fun z : Int × Int => (.inl z.1, .int z.2)
theorem kvI_keys (ps : List (Int × Int)) : (kvI ps).map (·.1) = (ps.map (·.1)).map Sum.inl := by simp [kvI, List.map_map, Function.comp_def]
theorem kvI_vals {H : Hp} {O : Addr → Prop} (ps : List (Int × Int)) : RepAll H (ps.map fun z => D.int z.2) O ((kvI ps).map (·.2)) := by
  have := RepAll.ofInts (H := H) (O := O) (ps.map (·.2))
  simpa [kvI, List.map_map, Function.comp_def] using this
section
variable {ω : Type} {C : Cn ω} {Z : Addr → Prop} {Γ : List Sl} {σ : L2.St} {Hs H : Hp} {md : Md}
theorem RepM.fdc {ps : List (Int × Int)} {x : V} (r : RepM C Z Γ σ Hs H md (.fdc ps) x) : ∃ a od, x = .ref a ∧ H a = some (.frz od (.dK (kvI ps))) := by
  cases md with
  | B =>
    obtain ⟨a, _, _, _, t⟩ := r
    exact t.elim
  | F => obtain ⟨a, od, e, _, h⟩ := (r : Rep H (.fdc ps) _ x); exact ⟨a, od, e, h⟩
  | PF => obtain ⟨a, od, e, _, h⟩ := (r : Rep H (.fdc ps) _ x); exact ⟨a, od, e, h⟩
  | P => obtain ⟨a, od, e, _, h⟩ := (r : Rep H (.fdc ps) _ x); exact ⟨a, od, e, h⟩
theorem walk_fk {O A : Addr → Prop} {ps : List (Int × Int)} {a : Addr} {od : Obj} (ha : H a = some (.frz od (.dK (kvI ps)))) (hO : ¬ O a) : WalkD O A H (Itk a od (kvI ps)) (ps.map fun z => .int z.1) := by
  have hn : (ps.map fun z => D.int z.1).length = (kvI ps).length := by simp [kvI]
  refine ⟨fun i H2 e hi => ⟨e.keep a _ ha hO, by rw [← hn]; exact hi⟩, fun H2 e => ⟨e.keep a _ ha hO, by rw [hn]; exact Nat.le_refl _⟩, fun i H2 x H3 e hi y => ?_⟩
  obtain ⟨rfl, k, v, e1, rfl⟩ := y
  rw [List.getElem?_map] at e1
  cases z : ps[i]? with
  | none => rw [z] at e1; cases e1
  | some p =>
    rw [z] at e1
    cases e1
    exact ⟨fun _ _ h => h, .int p.1, by rw [List.getElem?_map, z]; rfl, fun O' _ => rfl⟩
end
section
variable {X : Cx} {ω : Type} {C : Cn ω} {tg e a b : Expr} {te ta tb : EM C} {ts : AM C} {apos cpos pos p p2 : Pos}
/-- e's dict, which nobody else holds, is read alone from here on -/
def lockM (te : EM C) : EM C := fun Γ w Q => te Γ w fun md d w1 => md = .F ∧ ∃ ps : List (Int × Int), d = .dct (ps.map (·.1)) (ps.map fun z => .int z.2) ∧ Q .F (.fdc ps) w1
theorem vlock (he : VE X C e te) : VE X C e (lockM te) := PEimp (pe_locked he) fun σ H Q ⟨Z, Γ, w, Q0, R, ht, hq⟩ => ⟨Z, Γ, w, _, R, ht, fun md d w1 v H1 h1 e1 wr1 r1 => by
    obtain ⟨rfl, ps, rfl, h1⟩ := h1
    obtain ⟨a, rfl, hn, kvs, ha, hk, r⟩ := r1
    have ek := pairs_kvs hk r
    subst ek
    have hna : H a = none := by
      cases z : H a with
      | none => rfl
      | some o => exact absurd (show H a ≠ none from by rw [z]; simp) hn
    have B := R.bs
    have nW : ∀ b, C.W b → b ≠ a := fun b hb z => by subst z; exact B.sub b (.inl (.inl hb)) hna
    refine ⟨a, _, rfl, ha, fun od => hq .F (.fdc ps) w1 _ _ h1 ⟨fun b hb => ?_, fun b o hb n => ?_, fun b xs hb => ?_⟩ (C.fr w1 H1 _ (fun b hb => by rw [upd_ne (nW b hb)]) wr1) ⟨a, od, rfl, hn, upd_same⟩⟩
    · by_cases z : b = a
      · rw [z, upd_same]; simp
      · rw [upd_ne z]; exact e1.dom b hb
    · rw [upd_ne (fun z => by rw [z, hna] at hb; cases hb)]; exact e1.keep b o hb n
    · rw [upd_ne (fun z => by rw [z, hna] at hb; cases hb)]; exact e1.tup b xs hb⟩
/-- .. in e, e such a dict -/
def iterFk (te : EM C) : IM C := fun Γ w Q => te Γ w fun md d w1 => ∃ ps, d = .fdc ps ∧ Q md (ps.map fun z => .int z.1) w1
theorem vi_fk (he : VE X C e te) : VI X C tg e (iterFk te) := PIimp (pi_keys he) fun σ H Q ⟨Z, Γ, w, Q0, R, ht, hq⟩ => ⟨Z, Γ, w, _, R, ht, fun md d w1 v H1 h1 e1 wr1 r1 => by
    obtain ⟨ps, rfl, h1⟩ := h1
    obtain ⟨a, od, rfl, hl⟩ := r1.fdc
    have B := R.bs.ext e1
    have ho := r1.own_of B rfl (fun _ z => by cases z)
    exact ⟨a, od, rfl, .inl ⟨_, hl, hq _ _ _ _ _ h1 e1 wr1 (walk_fk hl ho.1) fun hm => walk_fk hl (ho.2 hm)⟩⟩⟩
/-- a[b], a such a dict -/
def fgetF : F2 := fun p q K => match p.2, q.2 with
  | .fdc ps, .int j => ∃ d, dlook (ps.map (·.1)) (ps.map fun z => .int z.2) j = some d ∧ K p.1.item d
  | _, _ => False
theorem vfget (hu : X.A.units + 1 < cLine) (ha : VE X C a ta) (hb : VE X C b tb) (hs : NoSl b) : VE X C (.Subscript a b pos) (binM fgetF ta tb) := PEimp (pe_dget hu ha hb hs) fun σ H Q ⟨Z, Γ, w, Q0, R, ht, hq⟩ =>
  ⟨Z, Γ, w, _, R, ht, fun m1 d1 w1 v1 H1 h1 e1 wr1 r1 => ⟨Z, Γ, w1, _, R.step e1 wr1, h1, fun m2 d2 w2 v2 H2 h2 e2 wr2 r2 => by
    have B2 := R.bs.ext (e1.trans e2)
    unfold fgetF at h2
    dsimp only at h2
    split at h2
    · rename_i ps j
      obtain ⟨d, h3, h4⟩ := h2
      obtain ⟨a, od, e, hl⟩ := (r1.ext (R.bs.ext e1) e2).fdc
      have ev : v2 = .int j := (r2.start e1.dom).any B2
      rcases look_rep (O := Av C Z Γ σ H m1.item) j (kvI_keys ps) (kvI_vals (H := H2) ps) with ⟨n1, _⟩ | ⟨d', v', n1, n2, n3⟩
      · rw [n1] at h3; cases h3
      · rw [n1] at h3; cases h3
        refine ⟨a, v', e, ?_, hq _ _ _ _ _ h4 (e1.trans e2) wr2 (RepM.mk (Md.item_ok _) n3)⟩
        rw [ev, ← n2]
        exact .inl ⟨_, _, .inr ⟨od, hl⟩, rfl, rfl⟩
    · exact h2.elim⟩⟩
/-- list(range(e)) -/
def lrngM (te : EM C) : EM C := fun Γ w Q => te Γ w fun _ d w1 => ∃ n : Int, d = .int n ∧ -1000000 ≤ n ∧ n ≤ 1000000 ∧ Q .F (.lst (rngD 0 n)) w1
theorem rngD_ints (n : Int) : rngD 0 n = ((List.range (n - 0).toNat).map fun (k : Nat) => (0 : Int) + (k : Int)).map D.int := by unfold rngD; rw [List.map_map]; rfl
theorem vlrng (hc : X.calm = true) (hm : X.mg "list" = none) (hm2 : X.mg "range" = none) (he : VE X C e te) (hg : Gl X "list" := by rfl) (hg2 : Gl X "range" := by rfl) (na : starEach [.Call (.Name "range" p2) [e] [] pos] X.env = (false, eval (.Call (.Name "range" p2) [e] [] pos) X.env) :: starEach [] X.env := by rfl)
    (na2 : starEach [e] X.env = (false, eval e X.env) :: starEach [] X.env := by rfl) : VE X C (.Call (.Name "list" p) [.Call (.Name "range" p2) [e] [] pos] [] cpos) (lrngM te) :=
  PEimp (pe_listRg hc hg hm (prg_1 hg2 hm2 he na2) na) fun σ H Q ⟨Z, Γ, w, Q0, R, ht, hq⟩ => ⟨Z, Γ, w, _, R, ht, fun md d w1 v H1 h1 e1 wr1 r1 => by
    obtain ⟨n, rfl, n1, n2, h1⟩ := h1
    have ev : v = .int n := r1.any (R.bs.ext e1)
    refine ⟨n, ev, ⟨by omega, by omega, by omega, by omega, by omega⟩, fun q hn => hq _ _ _ _ _ h1 (e1.trans (.same (same_new hn))) ((R.step e1 wr1).wsame (same_new hn)) ?_⟩
    rw [rngD_ints]
    have := RepM.newL (C := C) (Z := Z) (Γ := Γ) (σ := σ) (Hs := H) (md := .F) hn (R.bs.ext e1) rfl (RepAll.ofInts ((List.range (n - 0).toNat).map fun (k : Nat) => (0 : Int) + (k : Int)))
    rw [show rgV 0 n = ((List.range (n - 0).toNat).map fun (k : Nat) => (0 : Int) + (k : Int)).map V.int by unfold rgV; rw [List.map_map]; rfl]
    exact this⟩
end
end VS

/-! ### sorted(d), d a dict with keys of ints -/
namespace VS
open PySem PySem.Spec PyProof.Rows L2
theorem keys_ints {prog : Program} {w : World} : ∀ {ks : List Int} {kvs : List (Key × Value)} {l : List Value}, kvs.map (·.1) = ks.map Sum.inl → l.length = kvs.length → (∀ (j : Nat) (v : Value), l[j]? = some v → ∃ k x, kvs[j]? = some (k, x) ∧ (mixKind prog w).is k v = true) → IntsAre l ks
  | [], [], [], _, _, _ => .nil
  | [], _ :: _, _, e, _, _ => by cases e
  | _ :: _, [], _, e, _, _ => by cases e
  | _, [], _ :: _, _, e, _ => by cases e
  | _, _ :: _, [], _, e, _ => by cases e
  | k :: ks, (k', x) :: kvs, v :: l, e, hl, h => by
    simp only [List.map_cons, List.cons.injEq] at e
    obtain ⟨k2, x2, e1, e2⟩ := h 0 v rfl
    cases e1
    have e3 : k' = .inl k := e.1
    subst e3
    obtain ⟨t, rfl⟩ := relV_key (k := .inl k) (u := v) e2
    exact .cons _ _ (keys_ints e.2 (by simpa using hl) fun j v hj => h (j + 1) v hj)
/-- sorted(d): its keys -/
def rSD : List V → Hp → VK → Prop := fun vs H Q => ∃ (a : Addr) (kvs : List (Key × V)) (ks : List Int), vs = [V.ref a] ∧ Rd H a (.dK kvs) ∧ kvs.map (·.1) = ks.map Sum.inl ∧ ∀ q, H q = none → Q (.ref q) (upd H q (.lst ((srt ks).map V.int)))
theorem kv_fst : ∀ {kvs : List (Key × V)} {vs : List (Key × Value)}, KV kvs vs → vs.map (·.1) = kvs.map (·.1)
  | _, _, .nil => rfl
  | _, _, .cons h t => by rw [List.map_cons, List.map_cons, kv_fst t, h.1]
section
variable {X : Cx}
theorem cr_sortedD (hc : X.calm = true) : CallR X (.builtin "sorted") rSD := by
  intro pins s σ H vs us Q I r h
  obtain ⟨a, kvs, ks, rfl, hr, hk, q⟩ := h
  obtain ⟨u, rfl, ru⟩ := vals1 r
  obtain rfl : u = Value.ref a := ru
  obtain ⟨z, hsm, xs, kv, o', es, ep, ho, hx, hdt, r2⟩ := hr.ok I.hok
  have hdm : s.heap.DictAt (mixKind X.prog X.w) a xs ep := ⟨o', es, ho, hx, hdt, r2⟩
  have hh : X.A.handled = none := I.ok.hd hc
  have hk2 : xs.map (·.1) = ks.map Sum.inl := (kv_fst kv).trans hk
  have hl : xs.length = ks.length := by simpa using congrArg List.length hk2
  have hl2 : kvs.length = ks.length := by simpa using congrArg List.length hk
  refine Calls.call_function_entry kind_sorted plain_sorted entry_sorted (args_sorted1 _) ?_
  unfold Builtin.«sorted»
  refine wpAny_bind (m := checkCount "sorted" 1 1 _) (wpAny_pure ?_)
  refine wpAny_bind (PySem.W.kdu_collect (A := X.A.in1) (PySem.W.kdl_dict (knd := mixKind X.prog X.w) (kvs := xs) (ep := ep) hsm) hh hdm (by rw [hl, ← hl2]; exact z) fun h1 tk acc hk1 hacc => ?_)
  have hlen : acc.toList.length = xs.length := by rw [Array.length_toList]; exact hacc.1
  have hI : IntsAre acc.toList ks := keys_ints hk2 hlen fun j v e => hacc.2 j v (by rw [← Array.getElem?_toList]; exact e)
  have hz : acc.toList.length ≤ sizeLine := by rw [hlen, hl, ← hl2]; exact z
  refine wpAny_bind (wpAny_newList ?_ hz)
  have hD : (h1.push { cls := .type "list", data := .seq acc.toList.toArray }).get? h1.objs.size = some (seqObj "list" acc.toList.toArray 0) := Heap.get?_push_size _ rfl
  refine wpAny_bind (wpAny_holding (wpAny_call_entry slot_list_sort ⟨_, hD, rfl⟩ entry_list_sort (SrtO.list_sort_ord SrtO.swo_int hD hz (fun h2 => SrtO.ints_sortable hI h2) fun out k1 k2 => ⟨_, rfl, ?_⟩) (args_list_sort _)))
  obtain ⟨i1, i2, i3⟩ := SrtO.ints_out hI k1 k2
  obtain ⟨n, hn'⟩ := sortedHeap_at (vs := acc.toList) (out := out.toArray) hD
  have old : ∀ b o, h1.get? b = some o → (sortedHeap (h1.push { cls := .type "list", data := .seq acc.toList.toArray }) h1.objs.size acc.toList out.toArray).get? b = some o := fun b o hb => by
    have hb' := Heap.lt_size hb
    rw [sortedHeap_old (Nat.ne_of_lt hb') (show b < (h1.push { cls := .type "list", data := .seq acc.toList.toArray }).objs.size from by rw [Heap.size_push]; exact Nat.lt_succ_of_lt hb'), Heap.get?_push_ne _ _ _ (Nat.ne_of_lt hb')]
    exact hb
  have es : out.map SrtO.iv = srt ks := PySem.W.ksm_same (i2.trans (srt_perm ks).symm) i3 (srt_up ks)
  rw [es] at i1
  refine wpAny_pure ⟨_, rfl, ⟨.ref h1.objs.size, upd H h1.objs.size (.lst ((srt ks).map V.int)), (I.kept (t' := tk) hk1).laid (t' := tk) old (Nat.le_refl _) ⟨?_, out, n, vals_of_ints i1, hn'⟩, rfl, q _ ((I.hok.kept hk1).fresh (Nat.le_refl _))⟩⟩
  rw [List.length_map, (srt_perm ks).length_eq, ← hl2]
  exact z
end
def sortedDF : Fn := fun ps K => match ps with
  | [(_, .dct ks _)] => K .F (.lst ((srt ks).map D.int))
  | [(_, .fdc zs)] => K .F (.lst ((srt (zs.map (·.1))).map D.int))
  | _ => False
section
variable {ω : Type} {C : Cn ω}
theorem s_sortedD : SndC C rSD sortedDF := by
  intro Z Γ w σ Hs H vs ps K Q R B r h hq
  unfold sortedDF at h
  split at h
  · rename_i m ks l
    obtain ⟨v, rfl, rr⟩ := r.one
    obtain ⟨a, kvs, rfl, hl, hk, q⟩ := RepM.dct (ks := ks) (ds := l) rr
    exact ⟨a, kvs, ks, rfl, .inl hl, hk, fun p hp => hq _ _ _ _ h (same_new hp) (RepM.newL hp B rfl (RepAll.ofInts _))⟩
  · rename_i m zs
    obtain ⟨v, rfl, rr⟩ := r.one
    obtain ⟨a, od, rfl, hl⟩ := RepM.fdc (ps := zs) rr
    exact ⟨a, _, zs.map (·.1), rfl, .inr ⟨od, hl⟩, kvI_keys zs, fun p hp => hq _ _ _ _ h (same_new hp) (RepM.newL hp B rfl (RepAll.ofInts _))⟩
  · exact h.elim
end
end VS

/-! ### append to a list that a call has just told -/
namespace VS
open PySem PySem.Spec PyProof.Rows L2
section
variable {X : Cx} {ω : Type} {C : Cn ω} {te ta : EM C} {st : Stmt}
def dropAppM (te ta : EM C) : SM C := fun E Γ w => te Γ w fun m1 d1 w1 => m1 = .F ∧ ∃ l, d1 = .lst l ∧ l.length < 1000000 ∧ ta Γ w1 fun _ _ w2 => E.nx Γ w2
theorem vdropapp (hp : PS X st (tDrop (tBM X.K "list" rAppend (lE C te) (lA C (consA ta nilA))))) : VS1 X C st (dropAppM te ta) :=
  PSimp hp fun D σ H ⟨Z, Γ, w, E0, R, ht, o⟩ => ⟨Z, Γ, w, _, R, ht, fun m1 d1 w1 v H1 h1 e1 wr1 r1 => by
    obtain ⟨rfl, l, rfl, hlen, h1⟩ := h1
    obtain ⟨a, rfl, hn, vs, hl, q⟩ := r1
    have hna : H a = none := by
      cases z : H a with
      | none => rfl
      | some o => exact absurd (show H a ≠ none from by rw [z]; simp) hn
    have B := R.bs
    have nW : ∀ b, C.W b → b ≠ a := fun b hb z => by subst z; exact B.sub b (.inl (.inl hb)) hna
    refine ⟨.inl ⟨rfl, _, SqL.of hl⟩, Z, Γ, w1, (fun ps w2 => match ps with | [_] => E0.nx Γ w2 | _ => False), R.step e1 wr1, h1, fun ps w2 us H2 h2 e2 wr2 r2 => ?_⟩
    dsimp only at h2
    split at h2
    · obtain ⟨u, rfl, rx⟩ := r2.one
      have hl2 : H2 a = some (.lst vs) := e2.keep a _ hl fun z => nW a z rfl
      refine ⟨a, vs, u, rfl, rfl, hl2, by rw [q.length]; exact Nat.lt_of_lt_of_le hlen (by rw [sizeLine_eq]; decide), ?_⟩
      have E3 : Ext C.W H (upd H2 a (.lst (vs ++ [u]))) := by
        have E2 := e1.trans e2
        refine ⟨fun b hb => ?_, fun b o hb n => ?_, fun b xs hb => ?_⟩
        · by_cases z : b = a
          · rw [z, upd_same]; simp
          · rw [upd_ne z]; exact E2.dom b hb
        · rw [upd_ne (fun z => by rw [z, hna] at hb; cases hb)]; exact E2.keep b o hb n
        · rw [upd_ne (fun z => by rw [z, hna] at hb; cases hb)]; exact E2.tup b xs hb
      exact o.nx _ _ _ _ h2 (R.step E3 (C.fr w2 H2 _ (fun b hb => by rw [upd_ne (nW b hb)]) wr2)) (.of_ext E3)
    · exact h2.elim⟩
end
end VS

namespace VS
open PySem PySem.Spec PyProof.Rows L2
/-! ### defs as values -/
def adr (mg : Str → Option Value) (x : Str) : Addr := match mg x with | some (.ref f) => f | _ => 0
theorem adr_of {mg : Str → Option Value} {x : Str} {f : Addr} (h : mg x = some (.ref f)) : adr mg x = f := by unfold adr; rw [h]
section
variable {X : Cx} {ω : Type} {C : Cn ω}
theorem vfn {x : Str} {k : Nat} {ps : List Str} {sp : Sp} {p : Pos} (F : FnC X.prog X.w X.K X.mg X.base x k ps sp) (hg : Gl X x := by rfl) (hdb : (x == ("__debug__" : Str)) = false := by decide) : VE X C (.Name x p) (constM (.ref (adr X.mg x))) := by
  obtain ⟨f, fd, hm, _⟩ := F
  rw [adr_of hm]
  exact vcr (pe_glob hg hm rfl hdb)
/-- a call of what the i-th name holds: the def at a -/
def callL {ω : Type} {C : Cn ω} (i : Nat) (a : Addr) (n : Nat) (frs : List Bool) (P0 : PD) (ts : AM C) : EM C := fun Γ w Q => (∃ fr, Γ[i]? = some (.val fr (.ref a))) ∧ callD n frs P0 ts Γ w Q
theorem vcallL {i : Nat} {v x : Str} {k : Nat} {ps : List Str} {n : Nat} {frs : List Bool} {P0 : PD} {e : Expr} {es : List Expr} {ts : AM C} {p pos : Pos} (F : FnC X.prog X.w X.K X.mg X.base x k ps (spD n frs P0)) (hr : Room k X.A) (hp : Passes (L2.CX X.prog X.w) X E0) (hN : X.N[i]? = some v) (hv : Vis X.env.scope v) (ha : VA X C (e :: es) ts)
    (hdb : (v == ("__debug__" : Str)) = false := by decide) (hcd : (v == ("__classdict__" : Str)) = false := by decide)
    (he : starEach (e :: es) X.env = (false, eval e X.env) :: starEach es X.env := by rfl) (hpl : (backTo pos (starEach es X.env)).any (·.1) = false := by rfl) : VE X C (.Call (.Name v p) (e :: es) [] pos) (callL i (adr X.mg x) n frs P0 ts) := by
  obtain ⟨f, fd, hm, hk, hB, F⟩ := F
  refine PEimp (pe_callL (i := i) (f := f) (dvs := []) F hr hN hv hk hB .nil hp ha hdb hcd he hpl) fun σ H Q ⟨Z, Γ, w, Q0, R, ⟨⟨fr, hs⟩, ht⟩, hq⟩ => ⟨?_, Z, Γ, w, _, R, ht, fun ps w1 vs H1 h1 e1 wr1 r1 => ?_⟩
  · obtain ⟨u, h1, h2⟩ := R.val i fr _ hs
    have h2 : u = .ref (adr X.mg x) := h2
    rw [h1, h2, adr_of hm]
  obtain ⟨hl, hf, h1⟩ := h1
  have B := R.bs.ext e1
  refine ⟨fun b => H b ≠ none, ps.map (·.2), fun d => Q0 .F d w1, fun b h => e1.dom b h, by simpa using hl, ?_, h1, fun d v H' hd g r => hq .F d w1 v H' hd (e1.trans (.same g)) ((R.step e1 wr1).wsame g) r⟩
  rw [List.append_nil]
  exact args_ok B (fun _ z => z.elim) r1 hf
/-- either reading -/
def eiT {ω : Type} {C : Cn ω} (t u : EM C) : EM C := fun Γ w Q => t Γ w Q ∨ u Γ w Q
theorem vei {e : Expr} {t u : EM C} (h1 : VE X C e t) (h2 : VE X C e u) : VE X C e (eiT t u) := ⟨fun pins s σ H Q I ⟨Z, Γ, w, Q0, R, ht, hq⟩ => ht.elim (fun ht => h1.run pins s σ H Q I ⟨Z, Γ, w, Q0, R, ht, hq⟩) fun ht => h2.run pins s σ H Q I ⟨Z, Γ, w, Q0, R, ht, hq⟩⟩
end
end VS
namespace VS
open PySem PySem.Spec PyProof.Rows PyProof.V PySem.Calls PySem.W L2
/-! ### the sum of a tuple -/
def rSumT (K : PySem.W.Frag) : List V → Hp → VK → Prop := fun vs H Q => ∃ (a : Addr) (ns : List Int), vs = [V.ref a] ∧ SqT K H a (ns.map V.int) ∧ Q (.int ns.sum) H
theorem cr_sumT {X : Cx} (hc : X.calm = true) : CallR X (.builtin "sum") (rSumT X.K) := by
  intro pins s σ H vs us Q I r h
  obtain ⟨a, ns, rfl, hs, q⟩ := h
  obtain ⟨its, rv, hl, _⟩ := I.tuple hs
  rw [Vals.ref1 r]
  have hi := rv.ints
  obtain ⟨xs, hx⟩ := hi.allInts.items
  have hn : numsOf its = ns := hi.numsOf
  rw [hx] at hl
  have e2 : numsOf (intItems xs).toList = ns := by rw [← hx]; exact hn
  rw [nums_intItems] at e2
  refine PySem.W.ktm_sumG (I.ok.hd hc) hl fun h' tk t' hk => ⟨.int ns.sum, H, I.kept hk, ?_, q⟩
  rw [preSum_eq, List.take_of_length_le (by simp), e2]
  exact ⟨_, rfl⟩
end VS
namespace VS
open PySem PySem.Spec PyProof.Rows L2
def sumTF : Fn := fun ps K => ∃ (m : Md) (ns : List Int), ps = [(m, .tup (ns.map D.int))] ∧ K .F (.int ns.sum)
theorem s_sumT {ω : Type} {C : Cn ω} {K0 : PySem.W.Frag} : SndC C (rSumT K0) sumTF := by
  intro Z Γ w σ Hs H vs ps K Q R B r h hq
  obtain ⟨m, ns, rfl, h⟩ := h
  obtain ⟨v, rfl, rr⟩ := r.one
  obtain ⟨a, us, rfl, hl, q⟩ := RepM.tup (ds := ns.map D.int) rr
  cases RepAll.ints ns q
  exact ⟨a, ns, rfl, .of hl, hq _ _ _ _ h (fun _ _ h => h) (RepM.flat (d := .int _) rfl)⟩
end VS

/-! ### lists of lists known by their places; such a one spoilt ahead of the end -/
namespace VS
open PySem PySem.Spec PyProof.Rows L2
theorem ll_of {H : Hp} {O : Addr → Prop} : ∀ {lls : List (List Int)} {vs : List V}, RepAll H (lls.map fun l => .lst (l.map D.int)) O vs → ∃ bs : List (Addr × List Int), bs.map (·.2) = lls ∧ vs = bs.map (fun z => .ref z.1) ∧ ∀ z ∈ bs, ¬ O z.1 ∧ H z.1 = some (.lst (z.2.map V.int))
  | [], _, r => by cases r; exact ⟨[], rfl, rfl, fun _ h => by cases h⟩
  | l :: lls, _, r => by
    obtain ⟨v, r', rfl, ⟨b, rfl, hn, us, hb, q⟩, q'⟩ := r
    obtain ⟨bs, e1, rfl, h⟩ := ll_of q'
    cases RepAll.ints l q
    exact ⟨(b, l) :: bs, by rw [List.map_cons, e1], rfl, fun z hz => by
      rcases List.mem_cons.mp hz with rfl | hz
      · exact ⟨hn, hb⟩
      · exact h z hz⟩
section
variable {X : Cx} {ω : Type} {C : Cn ω} {st st1 st2 : Stmt} {rest : List Stmt}
/-- x = a new list of new lists of numbers: at which places they lie -/
def asgLLM (i : Nat) (te : EM C) : SM C := fun E Γ w => te Γ w fun md d w1 => md = .F ∧ ∃ lls : List (List Int), d = .lst (lls.map fun l => .lst (l.map D.int)) ∧ ∀ (a : Addr) (bs : List (Addr × List Int)), bs.map (·.2) = lls → C.H0 a = none → (∀ z ∈ bs, C.H0 z.1 = none) →
  (∀ (j : Nat) (fr : Bool) (a' : Addr) (bs' : List (Addr × List Int)), Γ[j]? = some (.val fr (.ll a' bs')) → ∀ x ∈ a' :: bs'.map (·.1), x ∉ a :: bs.map (·.1)) → E.nx (Γ.set i (.val true (.ll a bs))) w1
theorem vasgLL {te : EM C} (i : Nat) (hp : PS X st (tAsg (lE C te) (gName i))) : VS1 X C st (asgLLM i te) := PSimp hp fun D σ H ⟨Z, Γ, w, E0, R, ht, o⟩ => by
  refine ⟨Z, Γ, w, _, R, ht, fun md d w1 v H1 h1 e1 wr1 r1 => ?_⟩
  obtain ⟨rfl, lls, rfl, h1⟩ := h1
  obtain ⟨a, rfl, hn, vs, ha, q⟩ := (r1 : Rep H1 (.lst _) (fun b => H b ≠ none) v)
  obtain ⟨bs, eb, rfl, hbs⟩ := ll_of q
  have nn : ∀ {b}, ¬ H b ≠ none → H b = none := fun {b} h => by cases z : H b with | none => rfl | some o => exact absurd (show H b ≠ none by rw [z]; simp) h
  have ha0 := nn hn
  have hb0 : ∀ z ∈ bs, H z.1 = none := fun z hz => nn fun y => (hbs z hz).1 (.inl y)
  have h0 : ∀ {b}, H b = none → C.H0 b = none := fun {b} h => by cases z : C.H0 b with | none => rfl | some o => exact absurd h (R.ext.dom b (by rw [z]; simp))
  refine o.nx _ _ _ _ (h1 a bs eb (h0 ha0) (fun z hz => h0 (hb0 z hz)) fun j fr a' bs' hj x hx hx2 => ?_) ((R.step e1 wr1).setVal (fr := true) (d := .ll a bs) ⟨rfl, fun z => R.sub a (z.imp id And.right) ha0, ha, fun z hz => ⟨fun y => R.sub z.1 (y.imp id And.right) (hb0 z hz), fun y => (hbs z hz).1 (.inr y), (hbs z hz).2⟩⟩) ((Frm.of_ext e1).trans (.setVal (R.step e1 wr1).len))
  obtain ⟨u, _, rfl, _, k1, k2⟩ := R.val j fr _ hj
  have e : H x = none := by
    rcases List.mem_cons.mp hx2 with rfl | hx2
    · exact ha0
    · obtain ⟨z, hz, rfl⟩ := List.mem_map.mp hx2; exact hb0 z hz
  rcases List.mem_cons.mp hx with rfl | hx
  · rw [e] at k1; cases k1
  · obtain ⟨z, hz, rfl⟩ := List.mem_map.mp hx
    rw [(k2 z hz).2.2] at e; cases e
/-- what of a name is known still, when what lies at M was changed -/
def splV (M : List Addr) (fr : Bool) (d : D) : Sl := if d.flat = true then .val fr d else match d with
  | .ll a bs => if (a :: bs.map (·.1)).all (fun x => !M.contains x) = true then .val fr (.ll a bs) else .no
  | _ => .no
def splS (M : List Addr) : Sl → Sl
  | .val fr d => splV M fr d
  | .own (.lst ds) => if D.flats ds = true then .own (.lst ds) else .no
  | _ => .no
def splG (M : List Addr) (i j : Nat) : Nat → List Sl → List Sl
  | _, [] => []
  | k, s :: r => (if k = i ∨ k = j then .no else splS M s) :: splG M i j (k + 1) r
theorem splS_flat {M : List Addr} {fr : Bool} {d : D} (h : d.flat = true) : splS M (.val fr d) = .val fr d := by show splV M fr d = _; unfold splV; rw [if_pos h]
theorem splS_ll {M : List Addr} {fr : Bool} {a : Addr} {bs : List (Addr × List Int)} (h : ∀ x ∈ a :: bs.map (·.1), x ∉ M) : splS M (.val fr (.ll a bs)) = .val fr (.ll a bs) := by
  show (if ((a :: bs.map (·.1)).all (fun x => !M.contains x)) = true then Sl.val fr (.ll a bs) else .no) = _
  rw [if_pos]
  rw [List.all_eq_true]
  intro x hx
  have := h x hx
  simpa using this
def Kp (M : List Addr) : Sl → Prop
  | .val fr d => d.flat = true ∨ ∃ a bs, d = .ll a bs ∧ ∀ x ∈ a :: bs.map (·.1), x ∉ M
  | .own d => ∃ ds, d = .lst ds ∧ D.flats ds = true
  | .no => True
theorem splS_kp (M : List Addr) (s : Sl) : splS M s = .no ∨ (splS M s = s ∧ Kp M s) := by
  cases s with
  | no => exact .inl rfl
  | val fr d =>
    by_cases hd : d.flat = true
    · exact .inr ⟨splS_flat hd, .inl hd⟩
    · cases d with
      | ll a bs =>
        show (if ((a :: bs.map (·.1)).all (fun x => !M.contains x)) = true then Sl.val fr (.ll a bs) else .no) = .no ∨ _
        by_cases q : ((a :: bs.map (·.1)).all (fun x => !M.contains x)) = true
        · refine .inr ⟨if_pos q, .inr ⟨a, bs, rfl, fun x hx => ?_⟩⟩
          have := List.all_eq_true.mp q x hx
          simpa using this
        · exact .inl (if_neg q)
      | _ => exact .inl (by show splV M fr _ = .no; unfold splV; rw [if_neg hd])
  | own d =>
    cases d with
    | lst ds =>
      show (if D.flats ds = true then Sl.own (.lst ds) else .no) = .no ∨ _
      by_cases q : D.flats ds = true
      · exact .inr ⟨if_pos q, ds, rfl, q⟩
      · exact .inl (if_neg q)
    | _ => exact .inl rfl
theorem splG_len (M : List Addr) (i j : Nat) : ∀ (k : Nat) (Γ : List Sl), (splG M i j k Γ).length = Γ.length
  | _, [] => rfl
  | k, s :: r => by show (splG M i j (k + 1) r).length + 1 = _; rw [splG_len]; rfl
theorem splG_get {M : List Addr} {i j : Nat} : ∀ {k : Nat} {Γ : List Sl} {n : Nat} {s : Sl}, (splG M i j k Γ)[n]? = some s → s = .no ∨ (k + n ≠ i ∧ k + n ≠ j ∧ Γ[n]? = some s ∧ Kp M s)
  | _, [], _, _, h => by cases h
  | k, t :: r, 0, s, h => by
    have h : some (if k = i ∨ k = j then Sl.no else splS M t) = some s := h
    cases h
    by_cases q : k = i ∨ k = j
    · rw [if_pos q]; exact .inl rfl
    · rw [if_neg q]
      rcases splS_kp M t with e | ⟨e, hk⟩
      · exact .inl e
      · exact .inr ⟨fun z => q (.inl z), fun z => q (.inr z), by rw [e]; rfl, by rw [e]; exact hk⟩
  | k, t :: r, n + 1, s, h => by
    rcases splG_get (k := k + 1) (Γ := r) (n := n) (s := s) h with e | ⟨h1, h2, h3, h4⟩
    · exact .inl e
    · exact .inr ⟨by omega, by omega, h3, h4⟩
theorem flat_heap {H H' : Hp} {d : D} {O O' : Addr → Prop} {v : V} (hd : d.flat = true) (r : Rep H d O v) (ht : ∀ b vs, H b = some (.tup vs) → H' b = some (.tup vs)) : Rep H' d O' v :=
  Rep.flat d hd (Rep.move d (Rep.flat d hd r : Rep H d (fun _ => True) v) (fun _ _ _ => trivial) (fun _ _ _ n => absurd trivial n) ht : Rep H' d (fun _ => True) v)
theorem flats_heap {H H' : Hp} {ds : List D} {O O' : Addr → Prop} {vs : List V} (hd : D.flats ds = true) (r : RepAll H ds O vs) (ht : ∀ b vs, H b = some (.tup vs) → H' b = some (.tup vs)) : RepAll H' ds O' vs :=
  RepAll.flat ds hd (RepAll.move ds (RepAll.flat ds hd r : RepAll H ds (fun _ => True) vs) (fun _ _ _ => trivial) (fun _ _ _ n => absurd trivial n) ht : RepAll H' ds (fun _ => True) vs)
/-- for x in ll: x.append(c); ll.append([]); then the rest, which returns -/
def spoilM (i j : Nat) (u : SM C) : SM C := fun E Γ w => ∃ fr a bs, Γ[i]? = some (.val fr (.ll a bs)) ∧ i ≠ j ∧ j < Γ.length ∧ bs.length ≤ 1000 ∧ (∀ z ∈ bs, z.2.length ≤ 1000) ∧ C.H0 a = none ∧ (∀ z ∈ bs, C.H0 z.1 = none) ∧
  u ⟨fun _ _ => False, E.rt, fun _ _ => False, fun _ _ => False⟩ (splG (a :: bs.map (·.1)) i j 0 Γ) w
theorem vspoil {c : Int} {u : SM C} (i j : Nat) (h1 : PS X st1 (tFor (iList X.K (tVar i)) (gName j) (tDrop (tBM X.K "list" rAppend (tVar j) (tCons (tC (.int c)) tNil))))) (h2 : PS X st2 (tDrop (tBM X.K "list" rAppend (tVar i) (tCons (tLst tNil) tNil)))) (h3 : VSs X C rest u) : VSs X C (st1 :: st2 :: rest) (spoilM i j u) :=
  PSsimp (pss_cons h1 (pss_cons h2 h3)) fun D σ H ⟨Z, Γ, w, E0, R, ⟨fr, a, bs, hΓ, hij, hjl, hbl, hzl, ha0, hz0, hu⟩, o⟩ => by
    obtain ⟨v, hσ, rfl, hO, ha, hbs⟩ := R.val i fr _ hΓ
    have small : ∀ n : Nat, n ≤ 100000 → n < sizeLine := fun n hn => Nat.lt_of_le_of_lt hn (by rw [sizeLine_eq]; decide)
    refine ⟨_, hσ, a, rfl, ⟨_, .of ha⟩, fun n m σ' H' => m = bs.length - n ∧ n ≤ bs.length ∧ σ'.length = σ.length ∧ (∀ k, k ≠ j → σ'[k]? = σ[k]?) ∧ (∀ b, b ∉ bs.map (·.1) → H' b = H b) ∧ ∀ z ∈ bs, ∃ vs, H' z.1 = some (.lst vs) ∧ vs.length ≤ 1000 + n, ⟨_, rfl, Nat.zero_le _, rfl, fun _ _ => rfl, fun _ _ => rfl, fun z hz => ⟨_, (hbs z hz).2.2, by rw [List.length_map]; have := hzl z hz; omega⟩⟩, ?_⟩
    rintro n m σ' H' ⟨rfl, hn, hl', hs', hk', hm'⟩
    have na : a ∉ bs.map (·.1) := fun z => by obtain ⟨y, hy, e⟩ := List.mem_map.mp z; exact (hbs y hy).2.1 e
    have ha' : H' a = some (.lst (bs.map fun z => .ref z.1)) := by rw [hk' a na]; exact ha
    by_cases hlt : n < bs.length
    · refine .inr ⟨⟨_, .ref (bs[n]).1, .of ha', by rw [List.getElem?_map, List.getElem?_eq_getElem hlt]; rfl⟩, _, fun σ2 H2 h => ⟨bs.length - (n + 1), by omega, h⟩, fun x H2 hy => ?_⟩
      obtain ⟨rfl, hx⟩ := hy
      have hx := hx _ (.of ha')
      rw [List.getElem?_map, List.getElem?_eq_getElem hlt] at hx
      cases hx
      have hm : bs[n] ∈ bs := List.getElem_mem hlt
      obtain ⟨vs, hv, hvl⟩ := hm' _ hm
      refine ⟨.ref (bs[n]).1, List.getElem?_set_self (by rw [hl', ← R.len]; exact hjl), .inl ⟨rfl, _, .of hv⟩, _, vs, _, rfl, rfl, hv, small _ (by omega), rfl, hlt, by rw [List.length_set]; exact hl', fun k hk => by rw [List.getElem?_set_ne (Ne.symm hk)]; exact hs' k hk, fun b hb => by rw [upd_ne fun e => hb (by rw [e]; exact List.mem_map.mpr ⟨_, hm, rfl⟩)]; exact hk' b hb, fun z hz => ?_⟩
      by_cases e : z.1 = (bs[n]).1
      · rw [e]; exact ⟨_, upd_same, by rw [List.length_append]; simp; omega⟩
      · obtain ⟨us, q1, q2⟩ := hm' z hz
        exact ⟨us, by rw [upd_ne e]; exact q1, by omega⟩
    · have en : n = bs.length := by omega
      refine .inl ⟨⟨_, .of ha', by rw [List.length_map]; omega⟩, ?_⟩
      refine ⟨.ref a, by rw [hs' i hij]; exact hσ, .inl ⟨rfl, _, .of ha'⟩, ?_⟩
      refine ⟨Nat.zero_le _, fun p hp => ?_⟩
      have nap : a ≠ p := ne_of_none ha' hp
      refine ⟨a, _, .ref p, rfl, rfl, by rw [upd_ne nap]; exact ha', small _ (by rw [List.length_map]; omega), ?_⟩
      -- what is left
      have inM : ∀ b, b ∈ a :: bs.map (·.1) → ¬ Ow C Z Γ σ b ∧ C.H0 b = none ∧ ∃ vs, H b = some (.lst vs) := fun b hb => by
        rcases List.mem_cons.mp hb with rfl | hb
        · exact ⟨fun z => hO (.inl z), ha0, _, ha⟩
        · obtain ⟨z, hz, rfl⟩ := List.mem_map.mp hb
          exact ⟨fun y => (hbs z hz).1 (.inl y), hz0 z hz, _, (hbs z hz).2.2⟩
      generalize hH2 : upd (upd H' p (.lst [])) a (.lst ((bs.map fun z => V.ref z.1) ++ [.ref p])) = H2
      have same : ∀ b o', H b = some o' → b ∉ a :: bs.map (·.1) → H2 b = some o' := fun b o' hb hM => by
        have h1 : b ≠ a := fun e => hM (by rw [e]; exact List.mem_cons_self ..)
        have h2 : H' b = some o' := by rw [hk' b fun z => hM (List.mem_cons_of_mem _ z)]; exact hb
        rw [← hH2, upd_ne h1, upd_ne (ne_of_none h2 hp)]; exact h2
      have dom : ∀ b, H b ≠ none → H2 b ≠ none := fun b hb => by
        by_cases h1 : b = a
        · rw [h1, ← hH2, upd_same]; simp
        · by_cases h2 : b = p
          · rw [← hH2, upd_ne h1, h2, upd_same]; simp
          · rw [← hH2, upd_ne h1, upd_ne h2]
            by_cases h3 : b ∈ bs.map (·.1)
            · obtain ⟨z, hz, rfl⟩ := List.mem_map.mp h3
              obtain ⟨us, q1, _⟩ := hm' z hz
              rw [q1]; simp
            · rw [hk' b h3]; exact hb
      have tup : ∀ b vs, H b = some (.tup vs) → H2 b = some (.tup vs) := fun b vs hb => same b _ hb fun z => by
        obtain ⟨_, _, us, q⟩ := inM b z
        rw [hb] at q; cases q
      have get : ∀ {k : Nat} {s : Sl}, (splG (a :: bs.map (·.1)) i j 0 Γ)[k]? = some s → s = .no ∨ (σ'[k]? = σ[k]? ∧ Γ[k]? = some s ∧ Kp (a :: bs.map (·.1)) s) := fun {k s} h => by
        rcases splG_get h with e | ⟨h1, h2, h3, h4⟩
        · exact .inl e
        · exact .inr ⟨hs' k (by omega), h3, h4⟩
      have ow : ∀ b, Ow C Z (splG (a :: bs.map (·.1)) i j 0 Γ) σ' b → Ow C Z Γ σ b := fun b h => by
        rcases h with h | h | ⟨k, d, q1, q2⟩
        · exact .inl h
        · exact .inr (.inl h)
        · rcases get q1 with e | ⟨e1, e2, _⟩
          · cases e
          · rw [e1] at q2; exact .inr (.inr ⟨k, d, e2, q2⟩)
      refine ⟨Z, splG (a :: bs.map (·.1)) i j 0 Γ, w, ⟨fun _ _ => False, E0.rt, fun _ _ => False, fun _ _ => False⟩, ⟨?_, ?_, ?_, fun b z => dom b (R.zd b z), R.zn, ?_, ?_, ?_⟩, hu, ⟨fun _ _ _ _ h _ _ => h.elim, fun _ _ _ _ h _ _ => h.elim, fun _ _ _ _ h _ _ => h.elim, o.rt⟩⟩
      · rw [splG_len, R.len, hl']
      · refine C.fr w H H2 (fun b hb => ?_) R.wr
        have h1 : b ∉ a :: bs.map (·.1) := fun z => (inM b z).1 (.inl hb)
        cases z : H b with
        | none => exact absurd z (R.ext.dom b (C.hW b hb))
        | some o' => exact same b o' z h1
      · exact ⟨fun b h => dom b (R.ext.dom b h), fun b o' h n => same b o' (R.ext.keep b o' h n) fun z => (by rw [(inM b z).2.1] at h; cases h), fun b vs h => tup b vs (R.ext.tup b vs h)⟩
      · intro k l dk dl b q1 q2 q3 q4
        rcases get q1 with e | ⟨e1, e2, _⟩
        · cases e
        rcases get q2 with e | ⟨f1, f2, _⟩
        · cases e
        rw [e1] at q3
        rw [f1] at q4
        exact R.dist k l dk dl b e2 f2 q3 q4
      · intro k fr' d q1
        rcases get q1 with e | ⟨e1, e2, e3⟩
        · cases e
        obtain ⟨x, g1, g2⟩ := R.val k fr' d e2
        refine ⟨x, by rw [e1]; exact g1, ?_⟩
        rcases e3 with e3 | ⟨a', bs', rfl, e3⟩
        · exact flat_heap e3 g2 tup
        · obtain ⟨rfl, k1, k2, k3⟩ := g2
          refine ⟨rfl, fun z => k1 (z.imp (ow a') id), same _ _ k2 (e3 a' (List.mem_cons_self ..)), fun z hz => ⟨fun y => (k3 z hz).1 (y.imp (ow z.1) id), (k3 z hz).2.1, same _ _ (k3 z hz).2.2 (e3 z.1 (List.mem_cons_of_mem _ (List.mem_map.mpr ⟨z, hz, rfl⟩)))⟩⟩
      · intro k d q1
        rcases get q1 with e | ⟨e1, e2, ds, rfl, e3⟩
        · cases e
        obtain ⟨x, g1, g2, g3, g4, us, g5, g6⟩ := R.own k _ e2
        have ox : Ow C Z Γ σ x := .inr (.inr ⟨k, _, e2, g1⟩)
        exact ⟨x, by rw [e1]; exact g1, g2, g3, g4, us, same x _ g5 fun z => (inM x z).1 ox, flats_heap e3 g6 tup⟩
end
end VS

/-! ### list(reversed(a list)) -/
namespace VSR
open PySem PySem.Spec PyProof.Rows RT PySem.W PySem.Calls L2
section
variable {prog : Program} {w : World} {A : Around} {E : Value → Shared → Prop} {s : Shared}
theorem extend_rev {R : Result → Shared → Prop} {S it l : Addr} {items : Array Value} {c0 : Nat} {res : Value} (hh : A.handled = none) (hS : s.heap.get? S = some { cls := .type "list", data := .seq #[] c0 }) (hit : s.heap.IsRevIter it l ((items.size : Int) - 1)) (hl : s.heap.IsList l items) (hne : l ≠ it) (hSi : S ≠ it) (hSl : S ≠ l) (hn : items.size ≤ sizeLine)
    (hR : ∀ (h' : Heap) (tk : Nat) acc' c', (∀ b o, b ≠ S → b ≠ it → s.heap.get? b = some o → h'.get? b = some o) → h'.get? S = some { cls := .type "list", dict := none, data := .seq acc' c', slots := #[] } → ItemsOf (fun i v => items[items.size - 1 - i]? = some v) acc' items.size → R (.ok (.ret res)) { s with heap := h', toks := tk }) :
    wpAny (model prog w) A.in1 (Builtin.List.listExtendWith (.ref S) (.ref it) res)
      (fun fin s' => match fin with | .done f => R (.ok f) s' | .again c' => c'.quiet = true ∧ codeAny (model prog w) A c' R s') (fun e s' => R (.error e) s') s := by
  have W := (Walks.listRev (prog := prog) (w := w) (A := A.in1) hh it l hne items).toS
  have hSf : S ∉ [it, l] := by simp only [List.mem_cons, List.not_mem_nil, or_false, not_or]; exact ⟨hSi, hSl⟩
  have hT : s.TypeIs (.ref it) "list_reverseiterator" := hit.typeIs
  have h1 : Builtin.List.listSameRef (.ref S) (.ref it) = false := by simp [Builtin.List.listSameRef, hSi]
  unfold Builtin.List.listExtendWith
  refine wpAny_bind (wpAny_typeOf hT ?_)
  rw [if_neg (by rw [h1]; decide)]
  refine wpAny_bind (wpAny_pyIter_revIter hit ?_)
  refine wpAny_bind (wpAny_holding ?_)
  unfold Builtin.List.listLengthHint
  refine wpAny_bind (wpAny_specialOf hT nolen_lri ?_)
  show wpAny _ A.in1 (specialOf (Value.ref it) (Str.ofString "__length_hint__") >>= _) _ _ _
  refine wpAny_bind (wpAny_specialOf hT hint_lri ?_)
  generalize hid : ("list_reverseiterator.__length_hint__" : String) = id0
  wp_delta
  rw [show splitId id0 = some ("list_reverseiterator", "__length_hint__") from by subst hid; decide +kernel]
  subst hid
  refine wpAny_bind (wpAny_isInstance (b := true) hT (by rw [isSubtype_type]; kernel_rfl) ?_)
  refine wpAny_pure ?_
  rw [if_neg (by decide)]
  have e0 : ((items.size : Nat) : Int) - 1 - ((0 : Nat) : Int) = (items.size : Int) - 1 := by omega
  refine wpAny_pure ⟨plainId_quiet F.plain_extend_loop _, codeAny_extend_loopS W hn _ hSf _ items.size 0 _ _ _ rfl (Nat.zero_le _) ⟨Nat.zero_le _, by rw [e0]; exact hit, hl⟩ hS (ItemsOf.nil _) fun s' acc' c' hm hS' hacc => ?_⟩
  rw [Moved.eq_with hm]
  refine hR s'.heap s'.toks acc' c' (fun b o h1 h2 e => hm.heap b o (fun hmem => ?_) e) hS' hacc
  rcases List.mem_cons.mp hmem with e' | hmem
  · exact h1 e'
  · exact h2 (List.mem_singleton.mp hmem)
theorem list_init_rev {R : Result → Shared → Prop} {S it l : Addr} {items : Array Value} (hh : A.handled = none) (hS : s.heap.get? S = some { cls := .type "list", data := .seq #[] }) (hit : s.heap.IsRevIter it l ((items.size : Int) - 1)) (hl : s.heap.IsList l items) (hne : l ≠ it) (hSi : S ≠ it) (hSl : S ≠ l) (hn : items.size ≤ sizeLine)
    (hR : ∀ (h' : Heap) (tk : Nat) acc' c', (∀ b o, b ≠ S → b ≠ it → s.heap.get? b = some o → h'.get? b = some o) → h'.get? S = some { cls := .type "list", dict := none, data := .seq acc' c', slots := #[] } → ItemsOf (fun i v => items[items.size - 1 - i]? = some v) acc' items.size → R (.ok (.ret .none)) { s with heap := h', toks := tk }) :
    wpAny (model prog w) A.in1 (Builtin.«list.__init__» ⟨[.ref S, .ref it], []⟩)
      (fun fin s' => match fin with | .done f => R (.ok f) s' | .again c' => c'.quiet = true ∧ codeAny (model prog w) A c' R s') (fun e s' => R (.error e) s') s := by
  show wpAny _ A.in1 (do let old ← Builtin.List.listItems (.ref S); Builtin.List.listUpdate (.ref S) (fun _ => #[]); letGo old.toList.reverse; Builtin.List.listExtendWith (.ref S) (.ref it) .none) _ _ s
  refine wpAny_bind ?_
  unfold Builtin.List.listItems
  refine wpAny_bind (wpAny_seqItems hS rfl (wpAny_pure ?_))
  show wpAny _ A.in1 (updateSeq S (fun _ => #[]) >>= fun _ => letGo (#[] : Array Value).toList.reverse >>= fun _ => Builtin.List.listExtendWith (.ref S) (.ref it) .none) _ _ s
  refine wpAny_bind (wpAny_updateSeq hS rfl ?_)
  have hS₂ := Heap.get?_update_self (Obj.mapSeq (fun _ => (#[] : Array Value))) hS rfl
  have oth : ∀ b o, b ≠ S → s.heap.get? b = some o → (s.heap.update S (Obj.mapSeq (fun _ => (#[] : Array Value)))).get? b = some o :=
    fun b o hb e => (Heap.get?_update_other _ _ (Ne.symm hb)).trans e
  refine wpAny_bind (wpAny_letGo ?_)
  obtain ⟨ol, hol, hl2⟩ := id hl
  refine extend_rev hh hS₂ (hit.at fun o e => oth it o (Ne.symm hSi) e) ⟨ol, oth l _ (Ne.symm hSl) hol, hl2⟩ hne hSi hSl hn fun h' tk acc' c' hk hS' hacc => ?_
  exact hR h' tk acc' c' (fun b o h1 h2 e => hk b o h1 h2 (oth b o h1 e)) hS' hacc
theorem call_list_rev {it l : Addr} {items : Array Value} {Q : Value → Shared → Prop} (hh : A.handled = none) (hit : s.heap.IsRevIter it l ((items.size : Int) - 1)) (hl : s.heap.IsList l items) (hne : l ≠ it) (hn : items.size ≤ sizeLine)
    (hQ : ∀ (h' : Heap) (tk : Nat) acc' c', (∀ b o, b ≠ it → s.heap.get? b = some o → h'.get? b = some o) → h'.get? s.heap.objs.size = some { cls := .type "list", dict := none, data := .seq acc' c', slots := #[] } → ItemsOf (fun i v => items[items.size - 1 - i]? = some v) acc' items.size → Q (.ref s.heap.objs.size) { s with heap := h', toks := tk }) :
    wpAny (model prog w) A (call (.type "list") [.ref it]) Q E s := by
  obtain ⟨oi, hoi, _⟩ := id hit
  obtain ⟨ol, hol, _⟩ := id hl
  have hSi : s.heap.objs.size ≠ it := Nat.ne_of_gt (Heap.lt_size hoi)
  have hSl : s.heap.objs.size ≠ l := Nat.ne_of_gt (Heap.lt_size hol)
  refine callType_codes (Q₁ := fun obj s₁ => obj = .ref s.heap.objs.size ∧ s₁ = { s with heap := s.heap.push { cls := .type "list", data := .seq #[] } }) F.called_list (F.typeCall_list_1 _) F.entry_list_init
    (code_list_new _ ⟨rfl, rfl⟩) fun obj s₁ h₁ => ?_
  obtain ⟨rfl, rfl⟩ := h₁
  have hS : (s.heap.push { cls := .type "list", data := .seq #[] }).get? s.heap.objs.size = some { cls := .type "list", data := .seq #[] } := Heap.get?_push_size _ rfl
  refine ⟨⟨_, hS, rfl⟩, F.args_list_init_2 _ _, list_init_rev (A := A.in1) (s := { s with heap := s.heap.push { cls := .type "list", data := .seq #[] } }) hh hS (hit.at fun o e => Heap.get?_push_of_some _ e) (hl.push _) hne hSi hSl hn fun h' tk acc' c' hk hS' hacc => ?_⟩
  exact ⟨rfl, hQ h' tk acc' c' (fun b o h2 e => hk b o (Nat.ne_of_lt (Heap.lt_size e)) h2 (Heap.get?_push_of_some _ e)) hS' hacc⟩
end
/-- list(reversed(x)), x a list: a new list -/
def tLstRev (K : PySem.W.Frag) (te : TE) : TE := fun σ H Q => te σ H fun v H1 => ∃ (a : Addr) (xs : List V), v = .ref a ∧ SqL K H1 a xs ∧ ∀ q, H1 q = none → Q (.ref q) (upd H1 q (.lst xs.reverse))
section
variable {X : Cx}
theorem pe_lstRev {e : Expr} {te : TE} {p p2 pos pos2 : Pos} (hc : X.calm = true) (hg : Gl X "list") (hm : X.mg "list" = none) (hg2 : Gl X "reversed") (hm2 : X.mg "reversed" = none) (he : PE X e te)
    (hs : starEach [e] X.env = (false, eval e X.env) :: starEach [] X.env := by rfl)
    (hs2 : starEach [.Call (.Name "reversed" p2) [e] [] pos2] X.env = (false, eval (.Call (.Name "reversed" p2) [e] [] pos2) X.env) :: starEach [] X.env := by rfl) :
    PE X (.Call (.Name "list" p) [.Call (.Name "reversed" p2) [e] [] pos2] [] pos) (tLstRev X.K te) := by
  refine ⟨fun pins s σ H Q I h => ?_⟩
  refine Call_ (ld_blt I hg hm boot_list (PyProof.Rows.callWith_type1 (args_cons (Call_ (ld_blt I hg2 hm2 PyProof.Rows.boot_reversed (PyProof.Rows.callWith_type1 (args_cons (thn (he.run pins s σ H _ I h) fun u s1 ⟨v, H1, I1, r1, q1⟩ => args_nil ?_) hs) hs rfl))) hs2) hs2 rfl))
  obtain ⟨a, xs, ev, hq, q⟩ := q1
  subst ev
  obtain rfl : u = Value.ref a := r1
  obtain ⟨its, rv, p', hz⟩ := I1.list hq
  refine call_reversed_list p'.isList (args_nil ?_)
  have k0 : ∀ b o, s1.heap.get? b = some o → (s1.heap.push (revObj a ((its.toArray.size : Int) - 1))).get? b = some o := fun b o e => Heap.get?_push_of_some _ e
  have I2 : Inv X pins σ H1 { s1 with heap := s1.heap.push (revObj a ((its.toArray.size : Int) - 1)) } := I1.kept (t' := s1.toks) k0
  obtain ⟨f0, f1, f2, f3, f4, f5⟩ := I1.fpOk (H' := H1) (b := s1.heap.objs.size) (Nat.le_refl _) (I1.hok.fresh (Nat.le_refl _))
  have hl := p'.isList
  obtain ⟨ol, hol, _⟩ := id hl
  have hne : a ≠ s1.heap.objs.size := Nat.ne_of_lt (Heap.lt_size hol)
  have hn : its.toArray.size ≤ sizeLine := by rw [List.size_toArray, ← rv.length]; exact hz
  refine call_list_rev (s := { s1 with heap := s1.heap.push (revObj a ((its.toArray.size : Int) - 1)) }) (I1.ok.hd hc) ⟨_, Heap.get?_push_size _ rfl, rfl, rfl⟩ (hl.push _) hne hn fun h' tk acc c' hk hS hi => ?_
  have I3 : Inv X pins σ H1 { s1 with heap := h', toks := tk } := I2.turned (t' := tk) (fun b o hb e => hk b o hb e) f0 f1 f3 f4 f5
  have hf : H1 (s1.heap.push (revObj a ((its.toArray.size : Int) - 1))).objs.size = none := I2.hok.fresh (Nat.le_refl _)
  have new : ObjOk X.prog X.w (upd H1 (s1.heap.push (revObj a ((its.toArray.size : Int) - 1))).objs.size (.lst xs.reverse)) h' (s1.heap.push (revObj a ((its.toArray.size : Int) - 1))).objs.size (.lst xs.reverse) := ⟨by rw [List.length_reverse]; exact hz, acc.toList, c', vals_rev rv hi, by rw [Array.toArray_toList]; exact hS⟩
  have hok : HOk X.prog X.w (upd H1 (s1.heap.push (revObj a ((its.toArray.size : Int) - 1))).objs.size (.lst xs.reverse)) h' := fun b u e => by
    by_cases hb : b = (s1.heap.push (revObj a ((its.toArray.size : Int) - 1))).objs.size
    · subst hb; rw [upd_same] at e; cases e; exact new
    · rw [upd_ne hb] at e
      exact (I3.hok b u e).stay (fun c v _ q => q) (fun c q => by rw [upd_ne (ne_of_none q hf)]; exact q) fun c ys q => by rw [upd_ne (ne_of_none q hf)]; exact q
  refine ⟨.ref (s1.heap.push (revObj a ((its.toArray.size : Int) - 1))).objs.size, _, I2.call (h' := h') (g' := s1.gens) (t' := tk) (d' := s1.drawn) (ch := [s1.heap.objs.size]) ⟨fun b o e _ _ hx => hk b o (fun z => hx (by simp [z])) e, fun b o e _ _ hx => ⟨o.slots, hk b o (fun z => hx (by simp [z])) e⟩, fun b o e n _ => ?_, fun b o e hx => ⟨o, hk b o (fun z => hx (by simp [z])) e⟩, fun b ys e => by rw [upd_ne (ne_of_none e hf)]; exact e, fun b o u e => by rw [upd_ne (ne_of_none e hf)]; exact e, fun b ps e => ⟨#[], by rw [upd_ne (ne_of_none e hf), e]; simp⟩⟩ hok I2.bare (fun b hb => ?_), rfl, q _ hf⟩
  · rw [upd_ne fun z => absurd (Heap.lt_size e) (by rw [z]; exact Nat.lt_irrefl _)]; exact n
  · have e : b = s1.heap.objs.size := by simpa using hb
    subst e
    exact ⟨f3, f1, f4, f5⟩
end
end VSR
namespace VS
open PySem PySem.Spec PyProof.Rows L2
section
variable {X : Cx} {ω : Type} {C : Cn ω} {e : Expr} {te : EM C} {p p2 pos pos2 : Pos}
def lrevM (te : EM C) : EM C := fun Γ w Q => te Γ w fun md d w1 => ∃ l, d = .lst l ∧ D.flats l = true ∧ Q .F (.lst l.reverse) w1
theorem flats_rev : ∀ {l : List D}, D.flats l = true → D.flats l.reverse = true := fun {l} h => by
  have key : ∀ {a b : List D}, D.flats a = true → D.flats b = true → D.flats (a ++ b) = true := fun {a b} ha hb => by
    induction a with
    | nil => exact hb
    | cons x a ih =>
      have ha : (x.flat && D.flats a) = true := ha
      obtain ⟨h1, h2⟩ := Bool.and_eq_true_iff.mp ha
      show (x.flat && D.flats (a ++ b)) = true
      rw [h1, ih h2]; rfl
  induction l with
  | nil => rfl
  | cons x l ih =>
    have h : (x.flat && D.flats l) = true := h
    obtain ⟨h1, h2⟩ := Bool.and_eq_true_iff.mp h
    rw [List.reverse_cons]
    exact key (ih h2) (by show (x.flat && true) = true; rw [h1]; rfl)
theorem vlrev (hc : X.calm = true) (hm : X.mg "list" = none) (hm2 : X.mg "reversed" = none) (he : VE X C e te) (hg : Gl X "list" := by rfl) (hg2 : Gl X "reversed" := by rfl)
    (hs : starEach [e] X.env = (false, eval e X.env) :: starEach [] X.env := by rfl)
    (hs2 : starEach [.Call (.Name "reversed" p2) [e] [] pos2] X.env = (false, eval (.Call (.Name "reversed" p2) [e] [] pos2) X.env) :: starEach [] X.env := by rfl) : VE X C (.Call (.Name "list" p) [.Call (.Name "reversed" p2) [e] [] pos2] [] pos) (lrevM te) :=
  PEimp (VSR.pe_lstRev hc hg hm hg2 hm2 he hs hs2) fun σ H Q ⟨Z, Γ, w, Q0, R, ht, hq⟩ => ⟨Z, Γ, w, _, R, ht, fun md d w1 v H1 h1 e1 wr1 r1 => by
    obtain ⟨l, rfl, hf, h1⟩ := h1
    obtain ⟨a, vs, rfl, hl, q⟩ := r1.lst
    refine ⟨a, vs, rfl, .of hl, fun x hx => hq _ _ _ _ _ h1 (e1.trans (.same (same_new hx))) ((R.step e1 wr1).wsame (same_new hx)) (RepM.newL hx (R.bs.ext e1) (md := .F) rfl ?_)⟩
    exact RepAll.flat _ (flats_rev hf) q.reverse⟩
end
end VS

/-! ### x in a list of any data -/
namespace VS
open PySem PySem.Spec PyProof.Rows L2
theorem units65 {k : Nat} {A : Around} (r : Room k A) : A.units + 65 < cLine := by have := r.un; omega
def inDF : F2 := fun p q K => ∃ l, p.2.cmp ∧ q.2 = .lst l ∧ (D.lst l).cmp ∧ K .F (.bl (l.any fun z => z.eqv p.2))
theorem any_pys (d : D) : ∀ l : List D, (D.pys l).any (fun z => PyData.eqv z d.py) = l.any fun z => z.eqv d
  | [] => rfl
  | x :: l => by
    show (PyData.eqv x.py d.py || (D.pys l).any fun z => PyData.eqv z d.py) = _
    rw [any_pys d l]; rfl
theorem s_inD {ω : Type} {C : Cn ω} {K0 : PySem.W.Frag} : Snd2 C (rInD K0) inDF := by
  intro Z Γ w σ Hs H x y p q K Q R B r1 r2 h hq
  obtain ⟨m1, d1⟩ := p
  obtain ⟨m2, d2⟩ := q
  obtain ⟨l, h1, rfl, h2, h⟩ := h
  refine ⟨d1.py, D.pys l, Rep.dp _ h1.1 (r1.any B), Rep.dp (.lst l) h2.1 (r2.any B), h1.shaped, h2.shaped, hq _ _ _ _ h (fun _ _ h => h) (RepM.flat (d := .bl _) ?_)⟩
  rw [any_pys]; rfl
end VS

namespace VS
open PySem PySem.Spec PyProof.Rows L2
/-! ### objects: a book, coins held, coins paid (and ranks) -/
structure Oj where
  bk : D
  rk : Option D
abbrev OW := List Int × List Int
def sel (b : Bool) (w : OW) : List Int := match b with | false => w.1 | true => w.2
def put (b : Bool) (w : OW) (l : List Int) : OW := match b with | false => (l, w.2) | true => (w.1, l)
def fN (b : Bool) : Str := match b with | false => "held" | true => "paid"
def oF (bv : V) (hl pl : Addr) (tl : List (Str × V)) : List (Str × V) := ("book", bv) :: ("held", .ref hl) :: ("paid", .ref pl) :: tl
def oT (rk : Option D) (H : Hp) (O : Addr → Prop) (tl : List (Str × V)) : Prop := match rk with
  | none => tl = []
  | some d => ∃ rv, tl = [(("ranks" : Str), rv)] ∧ Rep H d O rv
def OA (Cc : Addr) (o : Oj) (a hl pl : Addr) (H : Hp) : Prop := ∃ dx bv tl, H a = some (.ins Cc dx (oF bv hl pl tl)) ∧ Rep H o.bk (fun _ => False) bv ∧ oT o.rk H (fun b => b = hl ∨ b = pl) tl
def OWr (hl pl : Addr) (w : OW) (H : Hp) : Prop := H hl = some (.lst (w.1.map V.int)) ∧ H pl = some (.lst (w.2.map V.int))
def objC (a hl pl : Addr) (A0 : Addr → Prop) (H0 : Hp) (hA : ∀ b, A0 b → H0 b ≠ none) (h1 : H0 hl ≠ none) (h2 : H0 pl ≠ none) : Cn OW :=
  { W := fun b => b = hl ∨ b = pl, wr := OWr hl pl, fr := fun w H H' h q => ⟨(h hl (.inl rfl)).trans q.1, (h pl (.inr rfl)).trans q.2⟩, A0 := A0, H0 := H0, hA := hA, hW := fun b h => h.elim (fun h => by rw [h]; exact h1) fun h => by rw [h]; exact h2, hdl := a }
structure IsO (C : Cn OW) (Cc : Addr) (o : Oj) (hl pl : Addr) : Prop where
  ne : hl ≠ pl
  w : ∀ b, C.W b ↔ (b = hl ∨ b = pl)
  wr : ∀ w H, C.wr w H ↔ OWr hl pl w H
  oa : OA Cc o C.hdl hl pl C.H0
  fl : o.bk.flat = true
  nh : ¬ C.W C.hdl
structure ClO (K : PySem.W.Frag) (Cc : Addr) : Prop where
  cls : Cls K Cc
  nB : NoAttr K Cc "book"
  nH : NoAttr K Cc "held"
  nP : NoAttr K Cc "paid"
  nR : NoAttr K Cc "ranks"
theorem ClO.nF {K : PySem.W.Frag} {Cc : Addr} (c : ClO K Cc) (b : Bool) : NoAttr K Cc (fN b) := by cases b with | false => exact c.nH | true => exact c.nP
theorem lk_here {k : Str} {v : V} {r : List (Str × V)} : List.lookup k ((k, v) :: r) = some v := by
  have e : (k == k) = true := beq_self_eq_true k
  simp only [List.lookup, e]
theorem lk_past {k g : Str} {v : V} {r : List (Str × V)} (h : (k == g) = false) : List.lookup k ((g, v) :: r) = List.lookup k r := by
  simp only [List.lookup, h]
theorem oF_book {bv : V} {hl pl : Addr} {tl : List (Str × V)} : (oF bv hl pl tl).lookup ("book" : Str) = some bv := lk_here
theorem oF_fld {bv : V} {hl pl : Addr} {tl : List (Str × V)} (b : Bool) : (oF bv hl pl tl).lookup (fN b) = some (.ref (if b = true then pl else hl)) := by
  cases b with
  | false => exact (lk_past (by decide +kernel)).trans lk_here
  | true => exact (lk_past (by decide +kernel)).trans ((lk_past (by decide +kernel)).trans lk_here)
theorem oF_ranks {bv rv : V} {hl pl : Addr} : (oF bv hl pl [(("ranks" : Str), rv)]).lookup ("ranks" : Str) = some rv := (lk_past (by decide +kernel)).trans ((lk_past (by decide +kernel)).trans ((lk_past (by decide +kernel)).trans lk_here))
def noF (m : Str) : Bool := (m == ("book" : Str)) == false && (m == ("held" : Str)) == false && (m == ("paid" : Str)) == false && (m == ("ranks" : Str)) == false
theorem oF_none {bv : V} {hl pl : Addr} {tl : List (Str × V)} {rk : Option D} {H : Hp} {O : Addr → Prop} {m : Str} (h : noF m = true) (t : oT rk H O tl) : (oF bv hl pl tl).lookup m = none := by
  unfold noF at h
  obtain ⟨h, h4⟩ := Bool.and_eq_true_iff.mp h
  obtain ⟨h, h3⟩ := Bool.and_eq_true_iff.mp h
  obtain ⟨h1, h2⟩ := Bool.and_eq_true_iff.mp h
  refine (lk_past (beq_iff_eq.mp h1)).trans ((lk_past (beq_iff_eq.mp h2)).trans ((lk_past (beq_iff_eq.mp h3)).trans ?_))
  cases rk with
  | none => rw [show tl = [] from t]; rfl
  | some d =>
    obtain ⟨rv, rfl, _⟩ := t
    exact (lk_past (beq_iff_eq.mp h4)).trans rfl
def selfAt {ω : Type} (C : Cn ω) (i : Nat) (Γ : List Sl) : Prop := ∃ fr, Γ[i]? = some (.val fr (.ref C.hdl))
section
variable {X : Cx} {C : Cn OW} {Cc hl pl : Addr} {o : Oj} {Z : Addr → Prop} {Γ : List Sl} {w : OW} {σ : L2.St} {H : Hp}
theorem Rep.mv {H H' : Hp} {d : D} {W : Addr → Prop} {v : V} (hd : d.flat = true) (e : Ext W H H') (r : Rep H d (fun _ => False) v) : Rep H' d (fun _ => False) v :=
  Rep.flat d hd (Rep.move d (Rep.flat d hd r : Rep H d W v) (fun _ _ z => z) (fun b o hb n => e.keep b o hb n) e.tup : Rep H' d W v)
theorem IsO.now (h : IsO C Cc o hl pl) (R : Rel C Z Γ w σ H) : ∃ dx bv tl, H C.hdl = some (.ins Cc dx (oF bv hl pl tl)) ∧ Rep H o.bk (fun _ => False) bv ∧ oT o.rk H (Ow C Z Γ σ) tl := by
  obtain ⟨dx, bv, tl, h1, h2, h3⟩ := h.oa
  refine ⟨dx, bv, tl, R.ext.keep _ _ h1 h.nh, Rep.mv h.fl R.ext h2, ?_⟩
  cases e : o.rk with
  | none => rw [e] at h3; exact h3
  | some d =>
    rw [e] at h3
    obtain ⟨rv, et, r⟩ := h3
    refine ⟨rv, et, Rep.move d r (fun b hb z => ?_) (fun b o hb n => R.ext.keep b o hb fun z => n ((h.w b).mp z)) R.ext.tup⟩
    rcases z with z | z | ⟨i, d', q1, q2⟩
    · exact (h.w b).mp z
    · exact absurd (R.zn b z) hb
    · obtain ⟨a, p1, p2, _⟩ := R.own i d' q1
      rw [q2] at p1; cases p1
      exact absurd p2 hb
theorem IsO.at_ (h : IsO C Cc o hl pl) (b : Bool) (wr : C.wr w H) : H (if b = true then pl else hl) = some (.lst ((sel b w).map V.int)) := by
  have q := (h.wr w H).mp wr
  cases b with
  | false => exact q.1
  | true => exact q.2
theorem IsO.isW (h : IsO C Cc o hl pl) (b : Bool) : C.W (if b = true then pl else hl) := by
  cases b with
  | false => exact (h.w _).mpr (.inl rfl)
  | true => exact (h.w _).mpr (.inr rfl)
theorem self_val (R : Rel C Z Γ w σ H) {i : Nat} (h : selfAt C i Γ) : σ[i]? = some (some (.ref C.hdl)) := by
  obtain ⟨fr, h⟩ := h
  obtain ⟨u, h1, h2⟩ := R.val i fr _ h
  have h2 : u = .ref C.hdl := h2
  rw [h1, h2]
/-- self.book -/
def bookM (o : Oj) (i : Nat) : EM C := fun Γ w Q => selfAt C i Γ ∧ Q .F o.bk w
theorem vbook {i : Nat} {e : Expr} {pos : Pos} (hO : IsO C Cc o hl pl) (c : ClO X.K Cc) (h : PE X e (tVar i)) (hb : attributeBase e "book" X.env (eval e X.env) = eval e X.env := by rfl) : VE X C (.Attribute e "book" pos) (bookM o i) := PEimp (pe_fld h hb) fun σ H Q ⟨Z, Γ, w, Q0, R, ⟨hs, ht⟩, hq⟩ => by
  obtain ⟨dx, bv, tl, q1, q2, q3⟩ := hO.now R
  exact ⟨_, self_val R hs, _, _, dx, _, bv, rfl, q1, c.cls, c.nB, oF_book, hq _ _ _ _ _ ht (.refl _ _) R.wr (RepM.flat (Rep.flat _ hO.fl q2))⟩
/-- self.ranks -/
def ranksM (o : Oj) (i : Nat) : EM C := fun Γ w Q => selfAt C i Γ ∧ ∃ d, o.rk = some d ∧ Q .P d w
theorem vranks {i : Nat} {e : Expr} {pos : Pos} (hO : IsO C Cc o hl pl) (c : ClO X.K Cc) (h : PE X e (tVar i)) (hb : attributeBase e "ranks" X.env (eval e X.env) = eval e X.env := by rfl) : VE X C (.Attribute e "ranks" pos) (ranksM o i) := PEimp (pe_fld h hb) fun σ H Q ⟨Z, Γ, w, Q0, R, ⟨hs, d, hd, ht⟩, hq⟩ => by
  obtain ⟨dx, bv, tl, q1, q2, q3⟩ := hO.now R
  rw [hd] at q3
  obtain ⟨rv, rfl, r⟩ := q3
  exact ⟨_, self_val R hs, _, _, dx, _, rv, rfl, q1, c.cls, c.nR, oF_ranks, hq _ _ _ _ _ ht (.refl _ _) R.wr r⟩
theorem atI_ints {ns : List Int} {z x : Int} (h : atI ns z = some x) : atI (ns.map V.int) z = some (.int x) := by
  unfold atI at h ⊢
  rw [List.length_map]
  cases e : ixN ns.length z with
  | none => rw [e] at h; cases h
  | some j =>
    rw [e] at h
    show (ns.map V.int)[j]? = _
    rw [List.getElem?_map, show ns[j]? = some x from h]; rfl
/-- self.held[e], self.paid[e] -/
def fixM (b : Bool) (i : Nat) (ti : EM C) : EM C := fun Γ w Q => selfAt C i Γ ∧ ti Γ w fun _ k w1 => ∃ z x, k = .int z ∧ atI (sel b w1) z = some x ∧ Q .F (.int x) w1
theorem vfix (b : Bool) {i : Nat} {e e2 : Expr} {ti : EM C} {pos pos' : Pos} (hO : IsO C Cc o hl pl) (c : ClO X.K Cc) (h : PE X e (tVar i)) (hs : PlainIx e2) (hi : VE X C e2 ti) (hb : attributeBase e (fN b) X.env (eval e X.env) = eval e X.env := by rfl) :
    VE X C (.Subscript (.Attribute e (fN b) pos') e2 pos) (fixM b i ti) := PEimp (pe_ix ix_seq (pe_fld h hb) hi hs) fun σ H Q ⟨Z, Γ, w, Q0, R, ⟨hs, ht⟩, hq⟩ => by
  obtain ⟨dx, bv, tl, q1, q2, q3⟩ := hO.now R
  refine ⟨_, self_val R hs, _, _, dx, _, _, rfl, q1, c.cls, c.nF b, oF_fld b, Z, Γ, w, _, R, ht, fun md k w1 v H1 h1 e1 wr1 r1 => ?_⟩
  obtain ⟨z, x, rfl, hx, h1⟩ := h1
  have ev : v = .int z := r1.any (R.bs.ext e1)
  exact .inl ⟨_, _, z, _, rfl, ev, .of (hO.at_ b wr1), atI_ints hx, hq _ _ _ _ _ h1 e1 wr1 (RepM.flat (d := .int _) rfl)⟩
/-- len(self.held) -/
def flenM (b : Bool) (i : Nat) : EM C := fun Γ w Q => selfAt C i Γ ∧ Q .F (.int ((sel b w).length : Int)) w
theorem vflen (b : Bool) {i : Nat} {e : Expr} {p pos pos' : Pos} (hO : IsO C Cc o hl pl) (c : ClO X.K Cc) (hm : X.mg "len" = none) (h : PE X e (tVar i)) (hb : attributeBase e (fN b) X.env (eval e X.env) = eval e X.env := by rfl) (hg : Gl X "len" := by rfl) (hv : bootBuiltins "len" = some (.builtin "len") := by decide +kernel)
    (he : starEach (.Attribute e (fN b) pos' :: []) X.env = (false, eval (.Attribute e (fN b) pos') X.env) :: starEach [] X.env := by rfl) (hpl : (backTo pos (starEach [] X.env)).any (·.1) = false := by rfl) : VE X C (.Call (.Name "len" p) [.Attribute e (fN b) pos'] [] pos) (flenM b i) :=
  PEimp (pe_callB call_lenA hg hm hv (pa_cons (pe_fld h hb) pa_nil he) (by decide) (by decide) he hpl) fun σ H Q ⟨Z, Γ, w, Q0, R, ⟨hs, ht⟩, hq⟩ => by
  obtain ⟨dx, bv, tl, q1, q2, q3⟩ := hO.now R
  refine ⟨_, self_val R hs, _, _, dx, _, _, rfl, q1, c.cls, c.nF b, oF_fld b, .inl ⟨_, (sel b w).length, rfl, .inl ⟨_, .of (hO.at_ b R.wr), by rw [List.length_map]⟩, hq _ _ _ _ _ ht (.refl _ _) R.wr (RepM.flat (d := .int _) rfl)⟩⟩
/-- self.held[e] = value -/
def fsetM (b : Bool) (i : Nat) (ti te : EM C) : SM C := fun E Γ w => te Γ w fun _ d w1 => ∃ x, d = .int x ∧ selfAt C i Γ ∧ ti Γ w1 fun _ k w2 => ∃ z j, k = .int z ∧ ixN (sel b w2).length z = some j ∧ E.nx Γ (put b w2 ((sel b w2).set j x))
theorem IsO.putW (hO : IsO C Cc o hl pl) (b : Bool) {x : Int} {j : Nat} (wr : C.wr w H) : C.wr (put b w ((sel b w).set j x)) (upd H (if b = true then pl else hl) (.lst (((sel b w).map V.int).set j (.int x)))) := by
  have q := (hO.wr w H).mp wr
  refine (hO.wr _ _).mpr ?_
  cases b with
  | false =>
    refine ⟨?_, ?_⟩
    · show upd H hl _ hl = _
      rw [upd_same]
      show some (HO.lst _) = some (.lst ((w.1.set j x).map V.int))
      rw [List.map_set]; rfl
    · show upd H hl _ pl = _
      rw [upd_ne (Ne.symm hO.ne)]; exact q.2
  | true =>
    refine ⟨?_, ?_⟩
    · show upd H pl _ hl = _
      rw [upd_ne hO.ne]; exact q.1
    · show upd H pl _ pl = _
      rw [upd_same]
      show some (HO.lst _) = some (.lst ((w.2.set j x).map V.int))
      rw [List.map_set]; rfl
theorem vfset (b : Bool) {st : Stmt} {i : Nat} {ti te : EM C} (hO : IsO C Cc o hl pl) (c : ClO X.K Cc) (hp : PS X st (tAsg (lE C te) (gSub (tFld X.K (tVar i) (fN b)) (lE C ti) rSetL))) : VS1 X C st (fsetM b i ti te) :=
  PSimp hp fun D σ H ⟨Z, Γ, w, E0, R, ht, ok⟩ => ⟨Z, Γ, w, _, R, ht, fun md d w1 v H1 h1 e1 wr1 r1 => by
    obtain ⟨x, rfl, hs, h1⟩ := h1
    have R1 := R.step e1 wr1
    have ev : v = .int x := r1.any (R.bs.ext e1)
    subst ev
    obtain ⟨dx, bv, tl, q1, q2, q3⟩ := hO.now R1
    refine ⟨_, self_val R1 hs, _, _, dx, _, _, rfl, q1, c.cls, c.nF b, oF_fld b, Z, Γ, w1, _, R1, h1, fun m2 k w2 v2 H2 h2 e2 wr2 r2 => ?_⟩
    obtain ⟨z, j, rfl, hj, h2⟩ := h2
    have R2 := R1.step e2 wr2
    have ev : v2 = .int z := (r2.start e1.dom).any (R.bs.ext (e1.trans e2))
    have hl2 := hO.at_ b wr2
    have ex : Ext C.W H2 (upd H2 (if b = true then pl else hl) (.lst (((sel b w2).map V.int).set j (.int x)))) := ext_upd (.refl _ _) (hO.isW b) ⟨_, hl2⟩
    exact ⟨_, _, z, j, rfl, ev, hl2, by rw [List.length_map]; exact hj, ok.nx _ _ _ _ h2 (R2.step ex (hO.putW b wr2)) ((Frm.of_ext (e1.trans e2)).trans (.of_ext ex))⟩⟩
/-- return self.paid -/
def retFM (b : Bool) (i : Nat) : SM C := fun E Γ w => selfAt C i Γ ∧ E.rt (.lst ((sel b w).map D.int)) w
theorem vretF (b : Bool) {i : Nat} {e : Expr} {pos pos' : Pos} (hO : IsO C Cc o hl pl) (hn : ∀ b, C.W b → ¬ C.A0 b) (c : ClO X.K Cc) (h : PE X e (tVar i)) (hb : attributeBase e (fN b) X.env (eval e X.env) = eval e X.env := by rfl) : VS1 X C (.Return (some (.Attribute e (fN b) pos')) pos) (retFM b i) :=
  PSimp (ps_ret (pe_fld h hb)) fun D σ H ⟨Z, Γ, w, E0, R, ⟨hs, ht⟩, ok⟩ => by
    obtain ⟨dx, bv, tl, q1, q2, q3⟩ := hO.now R
    exact ⟨_, self_val R hs, _, _, dx, _, _, rfl, q1, c.cls, c.nF b, oF_fld b, ok.rt _ _ _ _ ht R.ext R.wr ⟨_, rfl, hn _ (hO.isW b), _, hO.at_ b R.wr, RepAll.ofInts _⟩⟩
/-- return (desk.paid, desk.held) -/
def retTwoM (i : Nat) : SM C := fun E Γ w => selfAt C i Γ ∧ E.rt (.tup [.lst (w.2.map D.int), .lst (w.1.map D.int)]) w
theorem vretTwo {i : Nat} {e e' : Expr} {x1} {p1 p2 pos pos' : Pos} (hO : IsO C Cc o hl pl) (hn : ∀ b, C.W b → ¬ C.A0 b) (c : ClO X.K Cc) (h : PE X e (tVar i)) (h' : PE X e' (tVar i)) (hb : attributeBase e "paid" X.env (eval e X.env) = eval e X.env := by rfl) (hb' : attributeBase e' "held" X.env (eval e' X.env) = eval e' X.env := by rfl)
    (he : starEach (.Attribute e "paid" p1 :: [.Attribute e' "held" p2]) X.env = (false, eval (.Attribute e "paid" p1) X.env) :: starEach [.Attribute e' "held" p2] X.env := by rfl) (he' : starEach (.Attribute e' "held" p2 :: []) X.env = (false, eval (.Attribute e' "held" p2) X.env) :: starEach [] X.env := by rfl) :
    VS1 X C (.Return (some (.Tuple [.Attribute e "paid" p1, .Attribute e' "held" p2] x1 pos')) pos) (retTwoM i) :=
  PSimp (ps_ret (pe_tup (pa_cons (pe_fld h hb) (pa_cons (pe_fld h' hb') pa_nil he') he))) fun D σ H ⟨Z, Γ, w, E0, R, ⟨hs, ht⟩, ok⟩ => by
    obtain ⟨dx, bv, tl, q1, q2, q3⟩ := hO.now R
    refine ⟨_, self_val R hs, _, _, dx, _, _, rfl, q1, c.cls, c.nF true, oF_fld true, _, self_val R hs, _, _, dx, _, _, rfl, q1, c.cls, c.nF false, oF_fld false, by show 2 ≤ sizeLine; exact le1000 (by decide), fun p hp => ?_⟩
    have ex : Ext C.W H (upd H p (.tup [.ref pl, .ref hl])) := .same (same_new hp)
    have wr := R.wsame (same_new (o := .tup [.ref pl, .ref hl]) hp)
    have h1 := hO.at_ true wr
    have h2 := hO.at_ false wr
    refine ok.rt _ _ _ _ ht (R.ext.trans ex) wr ⟨p, _, rfl, upd_same, _, _, rfl, ⟨pl, rfl, hn _ (hO.isW true), _, h1, RepAll.ofInts _⟩, _, _, rfl, ⟨hl, rfl, hn _ (hO.isW false), _, h2, RepAll.ofInts _⟩, rfl⟩
end
/-! ### promises -/
abbrev PDO := Oj → List D → OW → (D → OW → Prop) → Prop
def spO (Cc : Addr) (n : Nat) (frs : List Bool) (P : PDO) : Sp := fun vs H Q _ => ∃ (o : Oj) (a hl pl : Addr) (A : Addr → Prop) (ds : List D) (w : OW) (Kp : D → OW → Prop), hl ≠ pl ∧ o.bk.flat = true ∧ OA Cc o a hl pl H ∧ OWr hl pl w H ∧ (∀ b, A b → H b ≠ none) ∧ ds.length = n ∧
  Args H A (fun b => b = hl ∨ b = pl) (false :: frs) (.ref a :: ds) vs ∧ P o ds w Kp ∧ ∀ d w' v H', Kp d w' → Ext (fun b => b = hl ∨ b = pl) H H' → OWr hl pl w' H' → Rep H' d A v → Q v H'
/-- a method as one may call it -/
def MtC (P : Program) (w : World) (K : PySem.W.Frag) (mg : Str → Option Value) (base : Heap) (Cc : Addr) (m : Str) (k : Nat) (ps : List Str) (sp : Sp) : Prop :=
  ∃ (f : Addr) (fd : FuncData), Meth K Cc m f ∧ Binds K fd ps [] ∧ FnOk P w K mg base (L2.CX P w) k f fd ps sp
/-- a method of the text, as the top has left it -/
def MtT (K : PySem.W.Frag) (Cc : Addr) (m qual : Str) (st : Stmt) (ps : List Str) : Prop := ∃ (f : Addr) (fd : FuncData), Meth K Cc m f ∧ Fun K m qual st f fd ∧ Binds K fd ps []
section
variable {P : Program} {w : World} {K : PySem.W.Frag} {mg : Str → Option Value} {base : Heap}
/-- THE RULE for a def that is handed an object first -/
theorem okOb {x qual : Str} {st : Stmt} {N ps : List Str} {k n : Nat} {frs : List Bool} {P0 : PDO} {Cc f : Addr} {fd : FuncData} (F : Fun K x qual st f fd) (S : FnScope N ps (defScope st)) (hn : n + 1 = ps.length)
    (hb : ∀ (f : Addr) (cdv : Value) (A : Around) (outer : List Env) (s : Shared) (H : Hp) (E : XK) (o : Oj) (C : Cn OW) (hl pl : Addr), IsO C Cc o hl pl → Room k (A.deeper (envOfC qual (defScope st) s.heap.objs.size f cdv)) →
      ∃ t : SM C, VSs (cxOf (L2.CX P w) P w K mg base N qual (defScope st) f cdv A outer s H E) C (defBody st) t ∧
        ∀ (ds : List D) (r : OW) (Kp : D → OW → Prop), ds.length = n → P0 o ds r Kp → t ⟨fun _ r' => Kp .non r', fun d r' => Kp d r', fun _ _ => False, fun _ _ => False⟩ (startG N.length (false :: frs) (.ref C.hdl :: ds)) r) : FnOk P w K mg base (L2.CX P w) (k + 1) f fd ps (spO Cc n frs P0) := by
  refine F.okX S (fun vs H Q E h => ?_) (fun cdv A outer s H vs Q E hr h => ?_)
  · obtain ⟨o, a, hl, pl, A, ds, r, Kp, _, _, _, _, _, hl, ha, _⟩ := h
    rw [ha.length, List.length_cons, hl, hn]
  · obtain ⟨o, a, hl, pl, A0, ds, r, Kp, hne, hfl, hoa, hrw, hA, hlen, ha, hP, hK⟩ := h
    have h1 : H hl ≠ none := by rw [hrw.1]; simp
    have h2 : H pl ≠ none := by rw [hrw.2]; simp
    have hI : IsO (objC a hl pl A0 H hA h1 h2) Cc o hl pl := ⟨hne, fun _ => Iff.rfl, fun _ _ => Iff.rfl, hoa, hfl, fun z => by
      obtain ⟨dx, bv, tl, q, _⟩ := hoa
      rcases z with z | z
      · rw [show a = hl from z, hrw.1] at q; cases q
      · rw [show a = pl from z, hrw.2] at q; cases q⟩
    obtain ⟨t, ht, hq⟩ := hb f cdv A outer s H E o (objC a hl pl A0 H hA h1 h2) hl pl hI hr
    refine ⟨_, ht, fun _ => False, startG N.length (false :: frs) (.ref a :: ds), r, ⟨fun _ r' => Kp .non r', fun d r' => Kp d r', fun _ _ => False, fun _ _ => False⟩, ?_, hq ds r _ hlen hP, ⟨fun Γ' w' σ' H' h R f => ?_, fun _ _ _ _ h _ _ => h.elim, fun _ _ _ _ h _ _ => h.elim, fun d w' v H' h e wr r => hK d w' v H' h e wr r⟩⟩
    · refine start_rel (C := objC a hl pl A0 H hA h1 h2) ?_ hrw ha
      have := S.pre
      have hp : (N.take ps.length).length = ps.length := by rw [this]
      rw [ha.length, List.length_cons, hlen, hn]
      rw [List.length_take] at hp
      omega
    · exact hK .non w' .non H' h R.ext R.wr rfl
theorem okO {x : Str} {st : Stmt} {N ps : List Str} {k n : Nat} {frs : List Bool} {P0 : PDO} {Cc : Addr} (F : FnT K mg x st ps) (S : FnScope N ps (defScope st)) (hn : n + 1 = ps.length)
    (hb : ∀ (f : Addr) (cdv : Value) (A : Around) (outer : List Env) (s : Shared) (H : Hp) (E : XK) (o : Oj) (C : Cn OW) (hl pl : Addr), IsO C Cc o hl pl → Room k (A.deeper (envOfC x (defScope st) s.heap.objs.size f cdv)) →
      ∃ t : SM C, VSs (cxOf (L2.CX P w) P w K mg base N x (defScope st) f cdv A outer s H E) C (defBody st) t ∧
        ∀ (ds : List D) (r : OW) (Kp : D → OW → Prop), ds.length = n → P0 o ds r Kp → t ⟨fun _ r' => Kp .non r', fun d r' => Kp d r', fun _ _ => False, fun _ _ => False⟩ (startG N.length (false :: frs) (.ref C.hdl :: ds)) r) : FnC P w K mg base x (k + 1) ps (spO Cc n frs P0) := by
  obtain ⟨f, fd, hm, F, hB⟩ := F
  exact ⟨f, fd, hm, F.kp, hB, okOb F S hn hb⟩
theorem okM {x qual : Str} {st : Stmt} {N ps : List Str} {k n : Nat} {frs : List Bool} {P0 : PDO} {Cc : Addr} (F : MtT K Cc x qual st ps) (S : FnScope N ps (defScope st)) (hn : n + 1 = ps.length)
    (hb : ∀ (f : Addr) (cdv : Value) (A : Around) (outer : List Env) (s : Shared) (H : Hp) (E : XK) (o : Oj) (C : Cn OW) (hl pl : Addr), IsO C Cc o hl pl → Room k (A.deeper (envOfC qual (defScope st) s.heap.objs.size f cdv)) →
      ∃ t : SM C, VSs (cxOf (L2.CX P w) P w K mg base N qual (defScope st) f cdv A outer s H E) C (defBody st) t ∧
        ∀ (ds : List D) (r : OW) (Kp : D → OW → Prop), ds.length = n → P0 o ds r Kp → t ⟨fun _ r' => Kp .non r', fun d r' => Kp d r', fun _ _ => False, fun _ _ => False⟩ (startG N.length (false :: frs) (.ref C.hdl :: ds)) r) : MtC P w K mg base Cc x (k + 1) ps (spO Cc n frs P0) := by
  obtain ⟨f, fd, hm, F, hB⟩ := F
  exact ⟨f, fd, hm, hB, okOb F S hn hb⟩
end
/-! ### calls -/
def callO {C : Cn OW} (o : Oj) (n : Nat) (frs : List Bool) (P0 : PDO) (ts : AM C) : EM C := fun Γ w Q => ts Γ w fun ps w1 => ∃ m rest, ps = (m, .ref C.hdl) :: rest ∧ rest.length = n ∧ frOk frs rest = true ∧ P0 o (rest.map (·.2)) w1 fun d w2 => Q .F d w2
def mthO {C : Cn OW} (o : Oj) (i n : Nat) (frs : List Bool) (P0 : PDO) (ts : AM C) : EM C := fun Γ w Q => selfAt C i Γ ∧ ts Γ w fun ps w1 => ps.length = n ∧ frOk frs ps = true ∧ P0 o (ps.map (·.2)) w1 fun d w2 => Q .F d w2
section
variable {X : Cx} {C : Cn OW} {Cc hl pl : Addr} {o : Oj} {k n : Nat} {ps : List Str} {frs : List Bool} {P0 : PDO} {ts : AM C}
theorem IsO.oaOf {Z : Addr → Prop} {Γ : List Sl} {w : OW} {σ : L2.St} {H : Hp} (hO : IsO C Cc o hl pl) (R : Rel C Z Γ w σ H) : OA Cc o C.hdl hl pl H := by
  obtain ⟨dx, bv, tl, q1, q2, q3⟩ := hO.now R
  refine ⟨dx, bv, tl, q1, q2, ?_⟩
  cases e : o.rk with
  | none => rw [e] at q3; exact q3
  | some d =>
    rw [e] at q3
    obtain ⟨rv, et, r⟩ := q3
    exact ⟨rv, et, Rep.move d r (fun b _ z => .inl ((hO.w b).mpr z)) (fun _ _ h _ => h) fun _ _ h => h⟩
theorem vcallO {x : Str} {e : Expr} {es : List Expr} {p pos : Pos} (F : FnC X.prog X.w X.K X.mg X.base x k ps (spO Cc n frs P0)) (hO : IsO C Cc o hl pl) (hr : Room k X.A) (hp : Passes (L2.CX X.prog X.w) X E0) (ha : VA X C (e :: es) ts) (hg : Gl X x := by rfl) (hdb : (x == ("__debug__" : Str)) = false := by decide)
    (he : starEach (e :: es) X.env = (false, eval e X.env) :: starEach es X.env := by rfl) (hpl : (backTo pos (starEach es X.env)).any (·.1) = false := by rfl) : VE X C (.Call (.Name x p) (e :: es) [] pos) (callO o n frs P0 ts) := by
  obtain ⟨f, fd, hm, hk, hB, F⟩ := F
  refine PEimp (pe_call (dvs := []) F hr hg hm hk hB .nil hp ha hdb he hpl) fun σ H Q ⟨Z, Γ, w, Q0, R, ht, hq⟩ => ⟨Z, Γ, w, _, R, ht, fun ps w1 vs H1 h1 e1 wr1 r1 => ?_⟩
  obtain ⟨m, rest, rfl, hlen, hf, h1⟩ := h1
  have B := R.bs.ext e1
  refine ⟨o, C.hdl, hl, pl, fun b => H b ≠ none, rest.map (·.2), w1, fun d w2 => Q0 .F d w2, hO.ne, hO.fl, hO.oaOf (R.step e1 wr1), (hO.wr w1 H1).mp wr1, fun b h => e1.dom b h, by simpa using hlen, ?_, h1, fun d r' v H' hd g wr r => hq .F d r' v H' hd (e1.trans (g.mono fun b z => (hO.w b).mpr z)) ((hO.wr r' H').mpr wr) r⟩
  rw [List.append_nil]
  exact args_ok (ps := (m, .ref C.hdl) :: rest) (frs := false :: frs) B (fun b z => (hO.w b).mpr z) r1 (by unfold frOk; simp [hf])
theorem meth_snd {i : Nat} {m : Str} {σ : L2.St} {H : Hp} {Q : VK} (hO : IsO C Cc o hl pl) (hm : noF m = true) (h : lE C (mthO o i n frs P0 ts) σ H Q) : tMeth Cc m (spO Cc n frs P0) [] E0 (tVar i) (lA C ts) σ H Q := by
  obtain ⟨Z, Γ, w, Q0, R, ⟨hs, ht⟩, hq⟩ := h
  obtain ⟨dx, bv, tl, q1, q2, q3⟩ := hO.now R
  refine ⟨_, self_val R hs, _, dx, _, rfl, q1, oF_none hm q3, Z, Γ, w, _, R, ht, fun ps w1 vs H1 h1 e1 wr1 r1 => ?_⟩
  obtain ⟨hlen, hf, h1⟩ := h1
  have B := R.bs.ext e1
  refine ⟨o, C.hdl, hl, pl, fun b => H b ≠ none, ps.map (·.2), w1, fun d w2 => Q0 .F d w2, hO.ne, hO.fl, hO.oaOf (R.step e1 wr1), (hO.wr w1 H1).mp wr1, fun b h => e1.dom b h, by simpa using hlen, ?_, h1, fun d r' v H' hd g wr r => hq .F d r' v H' hd (e1.trans (g.mono fun b z => (hO.w b).mpr z)) ((hO.wr r' H').mpr wr) r⟩
  rw [List.append_nil]
  exact ⟨_, _, rfl, rfl, args_ok B (fun b z => (hO.w b).mpr z) r1 hf⟩
theorem vmeth {i : Nat} {m : Str} {ob e : Expr} {es : List Expr} {apos pos : Pos} {plx : Sem Bool} (F : MtC X.prog X.w X.K X.mg X.base Cc m k ps (spO Cc n frs P0)) (hO : IsO C Cc o hl pl) (c : ClO X.K Cc) (hr : Room k X.A) (hp : Passes (L2.CX X.prog X.w) X E0) (ho : PE X ob (tVar i)) (ha : VA X C (e :: es) ts) (hm : noF m = true := by decide +kernel)
    (hst : starEach (e :: es) X.env = (false, eval e X.env) :: starEach es X.env := by rfl) (hpl : (backTo pos (starEach es X.env)).any (·.1) = false := by rfl)
    (ht : eval (.Call (.Attribute ob m apos) (e :: es) [] pos) X.env = (do
      let ov ← eval ob X.env
      standAt apos.atName
      let (f, first) ← holding [ov] (getMethod ov m plx)
      callWith pos f first (backTo pos (starEach (e :: es) X.env)) (backToKw pos (keywordEach [] X.env))) := by rfl) :
    VE X C (.Call (.Attribute ob m apos) (e :: es) [] pos) (mthO o i n frs P0 ts) := by
  obtain ⟨f, fd, hM, hB, F⟩ := F
  exact PEimp (pe_meth (dvs := []) ho c.cls hM F hr hB .nil hp ha hst hpl ht) fun σ H Q h => meth_snd hO hm h
theorem vmeth0 {i : Nat} {m : Str} {ob : Expr} {apos pos : Pos} {plx : Sem Bool} (F : MtC X.prog X.w X.K X.mg X.base Cc m k ps (spO Cc n frs P0)) (hO : IsO C Cc o hl pl) (c : ClO X.K Cc) (hr : Room k X.A) (hp : Passes (L2.CX X.prog X.w) X E0) (ho : PE X ob (tVar i)) (hm : noF m = true := by decide +kernel)
    (ht : eval (.Call (.Attribute ob m apos) [] [] pos) X.env = (do
      let ov ← eval ob X.env
      standAt apos.atName
      let (f, first) ← holding [ov] (getMethod ov m plx)
      callWith pos f first (backTo pos (starEach [] X.env)) (backToKw pos (keywordEach [] X.env))) := by rfl) :
    VE X C (.Call (.Attribute ob m apos) [] [] pos) (mthO o i n frs P0 nilA) := by
  obtain ⟨f, fd, hM, hB, F⟩ := F
  refine PEimp (pe_meth0 (dvs := []) ho c.cls hM F hr hB .nil hp ht) fun σ H Q h => ?_
  obtain ⟨u, h1, a, dx, fs, h2, h3, h4, Z, Γ, w, Q0, R, h5, h6⟩ := meth_snd (m := m) hO hm h
  exact ⟨u, h1, a, dx, fs, h2, h3, h4, h6 _ _ _ _ h5 (.refl _ _) R.wr rfl⟩
end
end VS

namespace VS
open PySem PySem.Spec PyProof.Rows L2
/-! ### an object is made -/
/-- what the new object holds, by the book -/
abbrev IPD := D → (Oj → OW → Prop) → Prop
def spI (Cc : Addr) (P : IPD) : Sp := fun vs H Q _ => ∃ (x dx : Addr) (bv : V) (bk : D) (Kp : Oj → OW → Prop), vs = [.ref x, bv] ∧ H x = some (.ins Cc dx []) ∧ bk.flat = true ∧ Rep H bk (fun _ => False) bv ∧ P bk Kp ∧
  ∀ (o : Oj) (w : OW) (hl pl : Addr) (H' : Hp), o.bk = bk → Kp o w → hl ≠ pl → H hl = none → H pl = none → (∀ b u, H b = some u → b ≠ x → H' b = some u) → OA Cc o x hl pl H' → OWr hl pl w H' → Q .non H'
def MkC (P : Program) (w : World) (K : PySem.W.Frag) (mg : Str → Option Value) (base : Heap) (x : Str) (Cc : Addr) (k : Nat) (ps : List Str) (sp : Sp) : Prop :=
  ∃ (f : Addr) (fd : FuncData), mg x = some (.ref Cc) ∧ Mk K Cc f ∧ Binds K fd ps [] ∧ FnOk P w K mg base (L2.CX P w) k f fd ps sp
def noOwn (Γ : List Sl) : Bool := Γ.all fun s => match s with | .own _ => false | _ => true
theorem noOwn_not {Γ : List Sl} (h : noOwn Γ = true) {i : Nat} {d : D} : Γ[i]? ≠ some (.own d) := fun e => by
  have := List.all_eq_true.mp h _ (List.mem_of_getElem? e)
  cases this
/-- x = C(book), and then all else with the object -/
def mkM {ω : Type} {C : Cn ω} (i ib : Nat) (P : IPD) (m : ∀ (o : Oj) (C' : Cn OW), SM C') : SM C := fun E Γ w => ∃ fr bk, Γ[ib]? = some (.val fr bk) ∧ bk.flat = true ∧ (∀ a l, bk ≠ .ll a l) ∧ noOwn Γ = true ∧ P bk fun o w1 => ∀ C' : Cn OW, m o C' ⟨fun _ _ => False, fun d _ => E.rt d w, fun _ _ => False, fun _ _ => False⟩ (Γ.set i (.val true (.ref C'.hdl))) w1
section
variable {X : Cx} {ω : Type} {C : Cn ω}
theorem vmk {Cc : Addr} {P : IPD} {st : Stmt} {rest : List Stmt} {m : ∀ (o : Oj) (C' : Cn OW), SM C'} (i ib : Nat) (hp : PS X st (tAsg (tMake Cc (spI Cc P) [] E0 (tCons (tVar ib) tNil)) (gName i)))
    (hr : ∀ (o : Oj) (C' : Cn OW) (hl pl : Addr), IsO C' Cc o hl pl → (∀ b, C'.W b → ¬ C'.A0 b) → VSs X C' rest (m o C')) : VSs X C (st :: rest) (mkM i ib P m) := by
  refine PSsimp (pss_cons hp (t := _) (u := fun Dn σ H' => ∃ (o : Oj) (C' : Cn OW) (hl pl : Addr) (hO : IsO C' Cc o hl pl) (hn : ∀ b, C'.W b → ¬ C'.A0 b), lS C' (m o C') Dn σ H') ⟨fun pins s' σ H' Dn I ⟨o, C', hl, pl, hO, hn, q⟩ => (hr o C' hl pl hO hn).run pins s' σ H' Dn I q⟩) ?_
  rintro Dn σ H ⟨Z, Γ, w, E0, R, ⟨fr, bk, hb, hfl, hll, hno, ht⟩, ok⟩
  obtain ⟨bv, hv, rv⟩ := R.val ib fr bk hb
  refine ⟨bv, hv, fun x dx hx hdx hne => ?_⟩
  have hH1 : ∀ b u, H b = some u → upd (upd H dx (.own x)) x (.ins Cc dx []) b = some u := fun b u h => by
    rw [upd_ne (ne_of_none h hx), upd_ne (ne_of_none h hdx)]; exact h
  have hs : Same H (upd (upd H dx (.own x)) x (.ins Cc dx [])) := fun b u h => hH1 b u h
  refine ⟨x, dx, bv, bk, _, rfl, upd_same, hfl, Rep.flat _ hfl (Rep.move bk (Rep.flat _ hfl rv : Rep H bk (fun _ => False) bv) (fun _ _ z => z) (fun b u h _ => hH1 b u h) fun b u h => hH1 b _ h), ht, fun o w1 hl pl H' ho hk hlp h1 h2 hkeep hoa hwr => ⟨rfl, ?_⟩⟩
  have hxx : upd (upd H dx (.own x)) x (.ins Cc dx []) x ≠ none := by rw [upd_same]; simp
  have fresh : ∀ c, upd (upd H dx (.own x)) x (.ins Cc dx []) c = none → H c = none := fun c h => by
    cases q : H c with
    | none => rfl
    | some u => rw [hH1 c u q] at h; cases h
  have hk2 : ∀ b u, H b = some u → H' b = some u := fun b u h => hkeep b u (hH1 b u h) (ne_of_none h hx)
  have e2 : Same H H' := fun b u h => hk2 b u h
  have dom2 : ∀ b, H b ≠ none → H' b ≠ none := fun b h => by
    cases q : H b with
    | none => exact absurd q h
    | some u => rw [hk2 b u q]; simp
  have hA : ∀ b, C.A0 b → H' b ≠ none := fun b z => dom2 b (R.ext.dom b (C.hA b z))
  have n1 : H' hl ≠ none := by rw [hwr.1]; simp
  have n2 : H' pl ≠ none := by rw [hwr.2]; simp
  have fh := fresh hl h1
  have fp := fresh pl h2
  refine ⟨o, objC x hl pl C.A0 H' hA n1 n2, hl, pl, ⟨hlp, fun _ => Iff.rfl, fun _ _ => Iff.rfl, hoa, by rw [ho]; exact hfl, ?_⟩, ?_, fun _ => False, Γ.set i (.val true (.ref x)), w1, ⟨fun _ _ => False, fun d _ => E0.rt d w, fun _ _ => False, fun _ _ => False⟩, ?_, hk (objC x hl pl C.A0 H' hA n1 n2), ⟨fun _ _ _ _ z _ _ => z.elim, fun _ _ _ _ z _ _ => z.elim, fun _ _ _ _ z _ _ => z.elim, fun d w' v H'' hd e wr r => ?_⟩⟩
  · rintro (z | z)
    · exact hxx (by rw [show x = hl from z] at h1 ⊢; exact h1)
    · exact hxx (by rw [show x = pl from z] at h2 ⊢; exact h2)
  · rintro b (z | z) q
    · subst z; exact R.ext.dom b (C.hA b q) fh
    · subst z; exact R.ext.dom b (C.hA b q) fp
  · have ow : ∀ b, Ow (objC x hl pl C.A0 H' hA n1 n2) (fun _ => False) (Γ.set i (.val true (.ref x))) (σ.set i (some (.ref x))) b → b = hl ∨ b = pl := fun b z => by
      rcases z with z | z | ⟨j, d, q1, q2⟩
      · exact z
      · exact z.elim
      · by_cases hj : j = i
        · subst hj
          by_cases hk : j < Γ.length
          · rw [List.getElem?_set_self hk] at q1; cases q1
          · rw [List.getElem?_eq_none (by simpa using hk)] at q1; cases q1
        · rw [List.getElem?_set_ne (Ne.symm hj)] at q1
          exact absurd q1 (noOwn_not hno)
    have now : ∀ (j : Nat) (d : D), (Γ.set i (.val true (.ref x)))[j]? ≠ some (.own d) := fun j d q1 => by
      by_cases hj : j = i
      · subst hj
        by_cases hk : j < Γ.length
        · rw [List.getElem?_set_self hk] at q1; cases q1
        · rw [List.getElem?_eq_none (by simpa using hk)] at q1; cases q1
      · rw [List.getElem?_set_ne (Ne.symm hj)] at q1
        exact absurd q1 (noOwn_not hno)
    refine ⟨by simp [R.len], hwr, .refl _ _, fun _ z => z.elim, fun _ z => z.elim, fun j k dj dk a q => absurd q (now j dj), fun j fr' d q => ?_, fun j d q => absurd q (now j d)⟩
    by_cases hj : j = i
    · subst hj
      by_cases hk : j < Γ.length
      · rw [List.getElem?_set_self hk] at q
        cases q
        exact ⟨.ref x, List.getElem?_set_self (by rw [← R.len]; exact hk), rfl⟩
      · rw [List.getElem?_eq_none (by simpa using hk)] at q; cases q
    · rw [List.getElem?_set_ne (Ne.symm hj)] at q
      obtain ⟨u, q1, q2⟩ := R.val j fr' d q
      refine ⟨u, by rw [List.getElem?_set_ne (Ne.symm hj)]; exact q1, Rep.move d q2 (fun b hb z => ?_) (fun b u h _ => hk2 b u h) fun b u h => hk2 b _ h⟩
      rcases z with z | z
      · rcases ow b z with z | z
        · subst z; exact absurd fh hb
        · subst z; exact absurd fp hb
      · exact .inr z
  · have e' : Ext (fun b => b = hl ∨ b = pl) H' H'' := e
    have e3 : Same H H'' := fun b u h => e'.keep b u (hk2 b u h) fun z => by
      rcases z with z | z
      · subst z; rw [fh] at h; cases h
      · subst z; rw [fp] at h; cases h
    exact ok.rt _ _ _ _ hd (R.ext.trans (.same e3)) (R.wsame e3) r
/-! ### __init__ -/
/-- self.f = e, self at the place 0, the book at 1 -/
def sIni (n : Nat) (Cc : Addr) (f : Str) (te : ∀ C : Cn Unit, EM C) : TS := fun Dn σ H => ∃ (x dx : Addr) (bk : D) (fs : List (Str × V)) (d : D) (bv : V) (N : List Str), N.length = n ∧ σ = L2.start N [.ref x, bv] ∧ 2 ≤ n ∧ bk.flat = true ∧ Rep H bk (fun _ => False) bv ∧ H x = some (.ins Cc dx fs) ∧ fs.length < 1000 ∧
  (∀ C : Cn Unit, te C (startG n [] [.ref x, bk]) () fun md d' _ => (md = .F ∨ d'.flat = true) ∧ d' = d) ∧ ∀ v H', Same H H' → Rep H' d (fun b => H b ≠ none) v → Dn.nx σ (upd H' x (.ins Cc dx (putF f v fs)))
theorem vini {Cc : Addr} {n : Nat} {f : Str} {te : ∀ C : Cn Unit, EM C} {e value : Expr} {pos pos' : Pos} (c : Cls X.K Cc) (na : NoAttr X.K Cc f) (ha : PE X e (tVar 0)) (hv : ∀ (A0 : Addr → Prop) (H0 : Hp) (hA : ∀ b, A0 b → H0 b ≠ none), VE X (pureC A0 H0 hA) value (te (pureC A0 H0 hA)))
    (hs : swapsWith value (some (.Attribute e f pos')) pos.line X.env = pure false := by rfl) : PS X (.Assign [.Attribute e f pos'] value pos) (sIni n Cc f te) := by
  refine ⟨fun pins s σ H Dn I ⟨x, dx, bk, fs, d, bv, N, hN, hσ, hn, hfl, hrb, hx, hlen, ht, hq⟩ => ?_⟩
  have hA : ∀ b, (fun b => H b ≠ none) b → H b ≠ none := fun _ z => z
  have hV := hv (fun b => H b ≠ none) H hA
  have R : Rel (pureC (fun b => H b ≠ none) H hA) (fun _ => False) (startG n [] [.ref x, bk]) () σ H := by
    rw [hσ, ← hN]
    refine start_rel (C := pureC (fun b => H b ≠ none) H hA) (by simp; omega) trivial ?_
    exact ⟨_, _, rfl, rfl, bv, [], rfl, Rep.flat _ hfl hrb, rfl⟩
  refine (ps_fld ha hV hs).run pins s σ H Dn I ⟨fun _ => False, startG n [] [.ref x, bk], (), _, R, ht _, fun md d' w' v H' hd e1 _ r1 => ?_⟩
  obtain ⟨hmd, rfl⟩ := hd
  have hs' : Same H H' := e1.to_same
  refine ⟨.ref x, ?_, x, Cc, dx, fs, rfl, hs' _ _ hx, c, na, hlen, hq v H' hs' ?_⟩
  · rw [hσ]; rfl
  · rcases hmd with rfl | hd
    · exact r1
    · exact Rep.flat _ hd (r1.any (R.bs.ext e1))
end
theorem putF_1 {v : V} {g : Str} : putF g v [] = [(g, v)] := rfl
theorem ext_ins {H H' : Hp} {x Cc dx : Addr} {fs fs' : List (Str × V)} (h : Same H H') (hx : H x = some (.ins Cc dx fs)) : Ext (fun b => b = x) H (upd H' x (.ins Cc dx fs')) := by
  have hx' := h _ _ hx
  refine ⟨fun b hb => ?_, fun b u hb n => by rw [upd_ne n]; exact h _ _ hb, fun b us hb => ?_⟩
  · by_cases z : b = x
    · subst z; rw [upd_same]; simp
    · rw [upd_ne z]
      cases q : H b with
      | none => exact absurd q hb
      | some u => rw [h _ _ q]; simp
  · rw [upd_ne fun z => by subst z; rw [hx] at hb; cases hb]; exact h _ _ hb
theorem nameM_val {ω : Type} {C : Cn ω} {i : Nat} {Γ : List Sl} {w : ω} {Q : Md → D → ω → Prop} {fr : Bool} {d : D} (h : Γ[i]? = some (.val fr d)) (hll : ∀ a l, d ≠ .ll a l) (q : Q (if fr = true then .PF else .P) d w) : nameM (C := C) i Γ w Q := by
  unfold nameM
  rw [h]
  cases d <;> first | exact q | exact absurd rfl (hll _ _)
theorem flat_ll {d : D} (h : d.flat = true) : ∀ a l, d ≠ .ll a l := fun a l e => by rw [e] at h; cases h
section
variable {P : Program} {w : World} {K : PySem.W.Frag} {mg : Str → Option Value} {base : Heap}
theorem book_step {n : Nat} {x : Addr} {bk : D} (hn : 2 ≤ n) (hfl : bk.flat = true) (C : Cn Unit) : nameM (C := C) 1 (startG n [] [.ref x, bk]) () fun md d' _ => (md = .F ∨ d'.flat = true) ∧ d' = bk := by
  refine nameM_val (fr := true) ?_ (flat_ll hfl) ⟨.inr hfl, rfl⟩
  show (Sl.val _ _ :: Sl.val _ _ :: _)[1]? = _
  rw [hfl]; rfl
/-- what an __init__ of two lists has laid -/
structure Laid (Cc x : Addr) (H H' : Hp) (bk : D) (h p : List Int) (bv : V) (hl pl : Addr) (dx : Addr) : Prop where
  ext : Ext (fun b => b = x) H H'
  at_ : H' x = some (.ins Cc dx [(("book" : Str), bv), ("held", .ref hl), ("paid", .ref pl)])
  book : Rep H' bk (fun _ => False) bv
  nh : H hl = none
  np : H pl = none
  ne : hl ≠ pl
  hh : H' hl = some (.lst (h.map V.int))
  hp : H' pl = some (.lst (p.map V.int))
theorem init3 {n : Nat} {Cc : Addr} {te2 te3 : ∀ C : Cn Unit, EM C} {u : TS} {Dn : Ends} {x dx : Addr} {bv : V} {bk : D} {h p : List Int} {N : List Str} {H : Hp} (hN : N.length = n) (hn : 2 ≤ n) (hfl : bk.flat = true) (hrb : Rep H bk (fun _ => False) bv) (hx : H x = some (.ins Cc dx []))
    (h2 : ∀ C : Cn Unit, te2 C (startG n [] [.ref x, bk]) () fun md d _ => (md = .F ∨ d.flat = true) ∧ d = .lst (h.map D.int)) (h3 : ∀ C : Cn Unit, te3 C (startG n [] [.ref x, bk]) () fun md d _ => (md = .F ∨ d.flat = true) ∧ d = .lst (p.map D.int))
    (hu : ∀ H' bv' hl pl, Laid Cc x H H' bk h p bv' hl pl dx → u Dn (L2.start N [.ref x, bv]) H') :
    tSeq (sIni n Cc "book" fun _ => nameM 1) (tSeq (sIni n Cc "held" te2) (tSeq (sIni n Cc "paid" te3) u)) Dn (L2.start N [.ref x, bv]) H := by
  have mono : ∀ {te : ∀ C : Cn Unit, EM C} {l : List Int}, True := trivial
  refine ⟨x, dx, bk, [], bk, bv, N, hN, rfl, hn, hfl, hrb, hx, by decide, book_step hn hfl, fun v1 H1 s1 r1 => ?_⟩
  have e1 : Ext (fun b => b = x) H (upd H1 x (.ins Cc dx (putF "book" v1 []))) := ext_ins s1 hx
  have r1' : Rep (upd H1 x (.ins Cc dx (putF "book" v1 []))) bk (fun _ => False) v1 := by
    have q : Rep H1 bk (fun _ => False) v1 := Rep.flat _ hfl r1
    have ee : Ext (fun b => b = x) H1 (upd H1 x (.ins Cc dx (putF "book" v1 []))) := ext_ins (fun _ _ h => h) (s1 _ _ hx)
    exact Rep.mv hfl ee q
  have x1 : upd H1 x (.ins Cc dx (putF "book" v1 [])) x = some (.ins Cc dx [("book", v1)]) := upd_same
  generalize upd H1 x (.ins Cc dx (putF "book" v1 [])) = G1 at e1 r1' x1 ⊢
  refine ⟨x, dx, bk, _, .lst (h.map D.int), bv, N, hN, rfl, hn, hfl, Rep.mv hfl e1 hrb, x1, by show 1 < 1000; decide, h2, fun v2 H2 s2 r2 => ?_⟩
  obtain ⟨hl, rfl, nhl, vs2, at2, ri2⟩ := r2
  cases RepAll.ints h ri2
  have nh1 : G1 hl = none := by cases q : G1 hl with | none => rfl | some o => exact absurd (show G1 hl ≠ none by rw [q]; simp) nhl
  have e2 : Ext (fun b => b = x) G1 (upd H2 x (.ins Cc dx (putF "held" (.ref hl) [(("book" : Str), v1)]))) := ext_ins s2 x1
  have hxl : hl ≠ x := fun z => by rw [z, x1] at nh1; cases nh1
  have x2 : upd H2 x (.ins Cc dx (putF "held" (.ref hl) [(("book" : Str), v1)])) x = some (.ins Cc dx [("book", v1), ("held", .ref hl)]) := by
    rw [upd_same]
    show some (HO.ins Cc dx (if ("book" : Str) = ("held" : Str) then _ else _)) = _
    rw [if_neg (by decide +kernel)]; rfl
  have l2 : upd H2 x (.ins Cc dx (putF "held" (.ref hl) [(("book" : Str), v1)])) hl = some (.lst (h.map V.int)) := by rw [upd_ne hxl]; exact at2
  generalize upd H2 x (.ins Cc dx (putF "held" (.ref hl) [(("book" : Str), v1)])) = G2 at e2 x2 l2 ⊢
  have e12 := e1.trans e2
  refine ⟨x, dx, bk, _, .lst (p.map D.int), bv, N, hN, rfl, hn, hfl, Rep.mv hfl e12 hrb, x2, by show 2 < 1000; decide, h3, fun v3 H3 s3 r3 => ?_⟩
  obtain ⟨pl, rfl, npl, vs3, at3, ri3⟩ := r3
  cases RepAll.ints p ri3
  have np2 : G2 pl = none := by cases q : G2 pl with | none => rfl | some o => exact absurd (show G2 pl ≠ none by rw [q]; simp) npl
  have e3 : Ext (fun b => b = x) G2 (upd H3 x (.ins Cc dx (putF "paid" (.ref pl) [(("book" : Str), v1), ("held", .ref hl)]))) := ext_ins s3 x2
  have pxl : pl ≠ x := fun z => by rw [z, x2] at np2; cases np2
  have nlp : hl ≠ pl := fun z => by rw [← z, l2] at np2; cases np2
  have x3 : upd H3 x (.ins Cc dx (putF "paid" (.ref pl) [(("book" : Str), v1), ("held", .ref hl)])) x = some (.ins Cc dx [("book", v1), ("held", .ref hl), ("paid", .ref pl)]) := by
    rw [upd_same]
    show some (HO.ins Cc dx (if ("book" : Str) = ("paid" : Str) then _ else _ :: (if ("held" : Str) = ("paid" : Str) then _ else _))) = _
    rw [if_neg (by decide +kernel), if_neg (by decide +kernel)]; rfl
  have l3 : upd H3 x (.ins Cc dx (putF "paid" (.ref pl) [(("book" : Str), v1), ("held", .ref hl)])) pl = some (.lst (p.map V.int)) := by rw [upd_ne pxl]; exact at3
  generalize upd H3 x (.ins Cc dx (putF "paid" (.ref pl) [(("book" : Str), v1), ("held", .ref hl)])) = G3 at e3 x3 l3 ⊢
  have old : ∀ c, G2 c = none → H c = none := fun c q => by
    cases z : H c with
    | none => rfl
    | some o => exact absurd q (e12.dom c (by rw [z]; simp))
  have old1 : ∀ c, G1 c = none → H c = none := fun c q => by
    cases z : H c with
    | none => rfl
    | some o => exact absurd q (e1.dom c (by rw [z]; simp))
  exact hu _ v1 hl pl ⟨e12.trans e3, x3, Rep.mv hfl (e2.trans e3) r1', old1 _ nh1, old _ np2, nlp, e3.keep _ _ l2 hxl, l3⟩
/-- Desk.__init__ -/
theorem okI3 {qual : Str} {st : Stmt} {N : List Str} {k n : Nat} {Cc f : Addr} {fd : FuncData} {ps : List Str} {te2 te3 : ∀ C : Cn Unit, EM C} {P0 : IPD} (F : Fun K "__init__" qual st f fd) (S : FnScope N ps (defScope st)) (hps : ps.length = 2) (hN : N.length = n) (hn : 2 ≤ n)
    (hb : ∀ (f : Addr) (cdv : Value) (A : Around) (outer : List Env) (s : Shared) (H : Hp) (E : XK), Room k (A.deeper (envOfC qual (defScope st) s.heap.objs.size f cdv)) →
      PSs (cxOf (L2.CX P w) P w K mg base N qual (defScope st) f cdv A outer s H E) (defBody st) (tSeq (sIni n Cc "book" fun _ => nameM 1) (tSeq (sIni n Cc "held" te2) (sIni n Cc "paid" te3))))
    (hr : ∀ bk Kp, P0 bk Kp → ∃ h p : List Int, (∀ (C : Cn Unit) (x : Addr), te2 C (startG n [] [.ref x, bk]) () fun md d _ => (md = .F ∨ d.flat = true) ∧ d = .lst (h.map D.int)) ∧ (∀ (C : Cn Unit) (x : Addr), te3 C (startG n [] [.ref x, bk]) () fun md d _ => (md = .F ∨ d.flat = true) ∧ d = .lst (p.map D.int)) ∧ Kp ⟨bk, none⟩ (h, p)) :
    FnOk P w K mg base (L2.CX P w) (k + 1) f fd ps (spI Cc P0) := by
  refine F.okX S (fun vs H Q E h => ?_) (fun cdv A outer s H vs Q E hrm h => ?_)
  · obtain ⟨x, dx, bv, bk, Kp, rfl, _⟩ := h
    rw [hps]; rfl
  · obtain ⟨x, dx, bv, bk, Kp, rfl, hx, hfl, hrb, hP, hK⟩ := h
    obtain ⟨h, p, h2, h3, hk⟩ := hr bk Kp hP
    refine ⟨_, PSsimp (hb f cdv A outer s H E hrm) (t' := tSeq (sIni n Cc "book" fun _ => nameM 1) (tSeq (sIni n Cc "held" te2) (tSeq (sIni n Cc "paid" te3) fun D σ H => D.nx σ H))) (fun _ _ _ z => z), init3 hN hn hfl hrb hx (fun C => h2 C x) (fun C => h3 C x) fun H' bv' hl pl L => ?_⟩
    exact hK ⟨bk, none⟩ (h, p) hl pl H' rfl hk L.ne L.nh L.np (fun b u hb nb => L.ext.keep b u hb nb) ⟨dx, bv', [], L.at_, L.book, rfl⟩ ⟨L.hh, L.hp⟩
/-- Play.__init__ -/
theorem okI4 {qual : Str} {st : Stmt} {N : List Str} {k n : Nat} {Cc f : Addr} {fd : FuncData} {ps : List Str} {te2 te3 te4 : ∀ C : Cn Unit, EM C} {P0 : IPD} (F : Fun K "__init__" qual st f fd) (S : FnScope N ps (defScope st)) (hps : ps.length = 2) (hN : N.length = n) (hn : 2 ≤ n)
    (hb : ∀ (f : Addr) (cdv : Value) (A : Around) (outer : List Env) (s : Shared) (H : Hp) (E : XK), Room k (A.deeper (envOfC qual (defScope st) s.heap.objs.size f cdv)) →
      PSs (cxOf (L2.CX P w) P w K mg base N qual (defScope st) f cdv A outer s H E) (defBody st) (tSeq (sIni n Cc "book" fun _ => nameM 1) (tSeq (sIni n Cc "held" te2) (tSeq (sIni n Cc "paid" te3) (sIni n Cc "ranks" te4)))))
    (hr : ∀ bk Kp, P0 bk Kp → ∃ (h p : List Int) (rk : D), (∀ (C : Cn Unit) (x : Addr), te2 C (startG n [] [.ref x, bk]) () fun md d _ => (md = .F ∨ d.flat = true) ∧ d = .lst (h.map D.int)) ∧ (∀ (C : Cn Unit) (x : Addr), te3 C (startG n [] [.ref x, bk]) () fun md d _ => (md = .F ∨ d.flat = true) ∧ d = .lst (p.map D.int)) ∧ (∀ (C : Cn Unit) (x : Addr), te4 C (startG n [] [.ref x, bk]) () fun md d _ => (md = .F ∨ d.flat = true) ∧ d = rk) ∧ Kp ⟨bk, some rk⟩ (h, p)) :
    FnOk P w K mg base (L2.CX P w) (k + 1) f fd ps (spI Cc P0) := by
  refine F.okX S (fun vs H Q E h => ?_) (fun cdv A outer s H vs Q E hrm h => ?_)
  · obtain ⟨x, dx, bv, bk, Kp, rfl, _⟩ := h
    rw [hps]; rfl
  · obtain ⟨x, dx, bv, bk, Kp, rfl, hx, hfl, hrb, hP, hK⟩ := h
    obtain ⟨h, p, rk, h2, h3, h4, hk⟩ := hr bk Kp hP
    refine ⟨_, hb f cdv A outer s H E hrm, init3 hN hn hfl hrb hx (fun C => h2 C x) (fun C => h3 C x) fun H' bv' hl pl L => ?_⟩
    refine ⟨x, dx, bk, _, rk, bv, N, hN, rfl, hn, hfl, Rep.mv hfl L.ext hrb, L.at_, by show 3 < 1000; decide, fun C => h4 C x, fun v4 H4 s4 r4 => ?_⟩
    have e4 : Ext (fun b => b = x) H' (upd H4 x (.ins Cc dx (putF "ranks" v4 [(("book" : Str), bv'), ("held", .ref hl), ("paid", .ref pl)]))) := ext_ins s4 L.at_
    have x4 : upd H4 x (.ins Cc dx (putF "ranks" v4 [(("book" : Str), bv'), ("held", .ref hl), ("paid", .ref pl)])) x = some (.ins Cc dx [("book", bv'), ("held", .ref hl), ("paid", .ref pl), ("ranks", v4)]) := by
      rw [upd_same]
      show some (HO.ins Cc dx (if ("book" : Str) = ("ranks" : Str) then _ else _ :: (if ("held" : Str) = ("ranks" : Str) then _ else _ :: (if ("paid" : Str) = ("ranks" : Str) then _ else _)))) = _
      rw [if_neg (by decide +kernel), if_neg (by decide +kernel), if_neg (by decide +kernel)]; rfl
    have hx' : H' x ≠ none := by rw [L.at_]; simp
    have e44 : Ext (fun b => b = x) H4 (upd H4 x (.ins Cc dx (putF "ranks" v4 [(("book" : Str), bv'), ("held", .ref hl), ("paid", .ref pl)]))) := ext_ins (fun _ _ h => h) (s4 _ _ L.at_)
    have r4' : Rep (upd H4 x (.ins Cc dx (putF "ranks" v4 [(("book" : Str), bv'), ("held", .ref hl), ("paid", .ref pl)]))) rk (fun b => b = hl ∨ b = pl) v4 := Rep.move rk r4 (fun b _ z => by
        rcases z with z | z
        · subst z; rw [L.hh]; simp
        · subst z; rw [L.hp]; simp) (fun b u hb n => e44.keep b u hb fun z => n (by rw [z]; exact hx')) e44.tup
    have nhx : hl ≠ x := fun z => absurd L.nh (by rw [z, hx]; simp)
    have npx : pl ≠ x := fun z => absurd L.np (by rw [z, hx]; simp)
    have ee := L.ext.trans e4
    exact hK ⟨bk, some rk⟩ (h, p) hl pl _ rfl hk L.ne L.nh L.np (fun b u hb nb => ee.keep b u hb nb) ⟨dx, bv', [("ranks", v4)], x4, Rep.mv hfl e4 L.book, v4, rfl, r4'⟩ ⟨e4.keep _ _ L.hh nhx, e4.keep _ _ L.hp npx⟩
end
end VS
namespace VS
open PySem PySem.Spec PyProof.Rows L2
/-! ### making, called -/
def MkT (K : PySem.W.Frag) (mg : Str → Option Value) (x : Str) (Cc : Addr) (qual : Str) (st : Stmt) (ps : List Str) : Prop := ∃ (f : Addr) (fd : FuncData), mg x = some (.ref Cc) ∧ Mk K Cc f ∧ Fun K "__init__" qual st f fd ∧ Binds K fd ps []
section
variable {X : Cx}
theorem pe_mk {x : Str} {Cc : Addr} {k : Nat} {ps : List Str} {P0 : IPD} {e : Expr} {ib : Nat} {p pos : Pos} (F : MkC X.prog X.w X.K X.mg X.base x Cc k ps (spI Cc P0)) (hr : Room (k + 1) X.A) (hp : Passes (L2.CX X.prog X.w) X E0) (ha : PE X e (tVar ib)) (hg : Gl X x := by rfl) (hdb : (x == ("__debug__" : Str)) = false := by decide)
    (he : starEach (e :: []) X.env = (false, eval e X.env) :: starEach [] X.env := by rfl) (hpl : (backTo pos (starEach [] X.env)).any (·.1) = false := by rfl) : PE X (.Call (.Name x p) [e] [] pos) (tMake Cc (spI Cc P0) [] E0 (tCons (tVar ib) tNil)) := by
  obtain ⟨f, fd, hm, M, hB, F⟩ := F
  exact pe_make (dvs := []) M F hr hg hm hB .nil hp (pa_cons ha pa_nil he) hdb he hpl
end
section
variable {P : Program} {w : World} {K : PySem.W.Frag} {mg : Str → Option Value} {base : Heap}
theorem okMk3 {x qual : Str} {st : Stmt} {N : List Str} {k n : Nat} {Cc : Addr} {ps : List Str} {te2 te3 : ∀ C : Cn Unit, EM C} {P0 : IPD} (T : MkT K mg x Cc qual st ps) (S : FnScope N ps (defScope st)) (hps : ps.length = 2) (hN : N.length = n) (hn : 2 ≤ n)
    (hb : ∀ (f : Addr) (cdv : Value) (A : Around) (outer : List Env) (s : Shared) (H : Hp) (E : XK), Room k (A.deeper (envOfC qual (defScope st) s.heap.objs.size f cdv)) →
      PSs (cxOf (L2.CX P w) P w K mg base N qual (defScope st) f cdv A outer s H E) (defBody st) (tSeq (sIni n Cc "book" fun _ => nameM 1) (tSeq (sIni n Cc "held" te2) (sIni n Cc "paid" te3))))
    (hr : ∀ bk Kp, P0 bk Kp → ∃ h p : List Int, (∀ (C : Cn Unit) (x : Addr), te2 C (startG n [] [.ref x, bk]) () fun md d _ => (md = .F ∨ d.flat = true) ∧ d = .lst (h.map D.int)) ∧ (∀ (C : Cn Unit) (x : Addr), te3 C (startG n [] [.ref x, bk]) () fun md d _ => (md = .F ∨ d.flat = true) ∧ d = .lst (p.map D.int)) ∧ Kp ⟨bk, none⟩ (h, p)) :
    MkC P w K mg base x Cc (k + 1) ps (spI Cc P0) := by
  obtain ⟨f, fd, hm, M, F, hB⟩ := T
  exact ⟨f, fd, hm, M, hB, okI3 F S hps hN hn hb hr⟩
theorem okMk4 {x qual : Str} {st : Stmt} {N : List Str} {k n : Nat} {Cc : Addr} {ps : List Str} {te2 te3 te4 : ∀ C : Cn Unit, EM C} {P0 : IPD} (T : MkT K mg x Cc qual st ps) (S : FnScope N ps (defScope st)) (hps : ps.length = 2) (hN : N.length = n) (hn : 2 ≤ n)
    (hb : ∀ (f : Addr) (cdv : Value) (A : Around) (outer : List Env) (s : Shared) (H : Hp) (E : XK), Room k (A.deeper (envOfC qual (defScope st) s.heap.objs.size f cdv)) →
      PSs (cxOf (L2.CX P w) P w K mg base N qual (defScope st) f cdv A outer s H E) (defBody st) (tSeq (sIni n Cc "book" fun _ => nameM 1) (tSeq (sIni n Cc "held" te2) (tSeq (sIni n Cc "paid" te3) (sIni n Cc "ranks" te4)))))
    (hr : ∀ bk Kp, P0 bk Kp → ∃ (h p : List Int) (rk : D), (∀ (C : Cn Unit) (x : Addr), te2 C (startG n [] [.ref x, bk]) () fun md d _ => (md = .F ∨ d.flat = true) ∧ d = .lst (h.map D.int)) ∧ (∀ (C : Cn Unit) (x : Addr), te3 C (startG n [] [.ref x, bk]) () fun md d _ => (md = .F ∨ d.flat = true) ∧ d = .lst (p.map D.int)) ∧ (∀ (C : Cn Unit) (x : Addr), te4 C (startG n [] [.ref x, bk]) () fun md d _ => (md = .F ∨ d.flat = true) ∧ d = rk) ∧ Kp ⟨bk, some rk⟩ (h, p)) :
    MkC P w K mg base x Cc (k + 1) ps (spI Cc P0) := by
  obtain ⟨f, fd, hm, M, F, hB⟩ := T
  exact ⟨f, fd, hm, M, hB, okI4 F S hps hN hn hb hr⟩
end
/-- from the head's facts -/
def mOf (c m q : Str) (st : Stmt) : He.DefD := ⟨(c, some m), m, q, defArgs st, defBody st, defScope st, [], []⟩
section
variable {K : PySem.W.Frag} {h : Heap} {mg : Str → Option Value} {fa : List He.Fa} {fn : List He.DefD}
theorem mtTOf (X : K.In h) (G : h.Ns mainGlobals mg) (c : He.SaysD fa fn K) (i j : Nat) {x m q : Str} {st : Stmt} {ps : List Str} (hd : fn[i]? = some (mOf x m q st)) (hf : fa[j]? = some (.meth x m))
    (hb : ∀ (kV doc pm : Value) (an : Option Addr) (cdv ct : Value) (us : List Value), us.length = ps.length → bindArgs (PySem.W.fnOf m q (defArgs st) (defBody st) (defScope st) .none kV doc pm an cdv ct) ⟨us, []⟩ = pure (ps.zip us)) : MtT K (He.ga K x) m q st ps := by
  obtain ⟨fd, F⟩ := c.def_ i hd
  exact ⟨_, fd, He.meth_ok (c.fact j hf), funOf F, FunD.bindsN F hb⟩
theorem mkTOf (X : K.In h) (G : h.Ns mainGlobals mg) (c : He.SaysD fa fn K) (i j l : Nat) {x q : Str} {st : Stmt} {ps : List Str} (hd : fn[i]? = some (mOf x "__init__" q st)) (hf : fa[j]? = some (.mkr x)) (hgl : fa[l]? = some (.glo x))
    (hb : ∀ (kV doc pm : Value) (an : Option Addr) (cdv ct : Value) (us : List Value), us.length = ps.length → bindArgs (PySem.W.fnOf "__init__" q (defArgs st) (defBody st) (defScope st) .none kV doc pm an cdv ct) ⟨us, []⟩ = pure (ps.zip us)) : MkT K mg x (He.ga K x) q st ps := by
  obtain ⟨fd, F⟩ := c.def_ i hd
  exact ⟨_, fd, He.glo_ok X G (c.fact l hgl), He.mkr_ok (c.fact j hf), funOf F, FunD.bindsN F hb⟩
theorem clOOf (c : He.SaysD fa fn K) (i1 i2 i3 i4 i5 : Nat) {x : Str} (h1 : fa[i1]? = some (.cls x)) (h2 : fa[i2]? = some (.noat x "book")) (h3 : fa[i3]? = some (.noat x "held")) (h4 : fa[i4]? = some (.noat x "paid")) (h5 : fa[i5]? = some (.noat x "ranks")) : ClO K (He.ga K x) :=
  ⟨He.cls_ok (c.fact i1 h1), He.noat_ok (c.fact i2 h2), He.noat_ok (c.fact i3 h3), He.noat_ok (c.fact i4 h4), He.noat_ok (c.fact i5 h5)⟩
end
end VS

namespace VS
open PySem PySem.Spec PyProof.Rows L2
/-! ### a call of what a name holds, an object handed first -/
def callLO {C : Cn OW} (o : Oj) (i : Nat) (a : Addr) (n : Nat) (frs : List Bool) (P0 : PDO) (ts : AM C) : EM C := fun Γ w Q => (∃ fr, Γ[i]? = some (.val fr (.ref a))) ∧ callO o n frs P0 ts Γ w Q
section
variable {X : Cx} {C : Cn OW} {Cc hl pl : Addr} {o : Oj} {k n : Nat} {ps : List Str} {frs : List Bool} {P0 : PDO} {ts : AM C}
theorem vcallLO {i : Nat} {v x : Str} {e : Expr} {es : List Expr} {p pos : Pos} (F : FnC X.prog X.w X.K X.mg X.base x k ps (spO Cc n frs P0)) (hO : IsO C Cc o hl pl) (hr : Room k X.A) (hp : Passes (L2.CX X.prog X.w) X E0) (hN : X.N[i]? = some v) (hv : Vis X.env.scope v) (ha : VA X C (e :: es) ts)
    (hdb : (v == ("__debug__" : Str)) = false := by decide) (hcd : (v == ("__classdict__" : Str)) = false := by decide)
    (he : starEach (e :: es) X.env = (false, eval e X.env) :: starEach es X.env := by rfl) (hpl : (backTo pos (starEach es X.env)).any (·.1) = false := by rfl) : VE X C (.Call (.Name v p) (e :: es) [] pos) (callLO o i (adr X.mg x) n frs P0 ts) := by
  obtain ⟨f, fd, hm, hk, hB, F⟩ := F
  refine PEimp (pe_callL (i := i) (f := f) (dvs := []) F hr hN hv hk hB .nil hp ha hdb hcd he hpl) fun σ H Q ⟨Z, Γ, w, Q0, R, ⟨⟨fr, hs⟩, ht⟩, hq⟩ => ⟨?_, Z, Γ, w, _, R, ht, fun ps w1 vs H1 h1 e1 wr1 r1 => ?_⟩
  · obtain ⟨u, h1, h2⟩ := R.val i fr _ hs
    have h2 : u = .ref (adr X.mg x) := h2
    rw [h1, h2, adr_of hm]
  obtain ⟨m, rest, rfl, hlen, hf, h1⟩ := h1
  have B := R.bs.ext e1
  refine ⟨o, C.hdl, hl, pl, fun b => H b ≠ none, rest.map (·.2), w1, fun d w2 => Q0 .F d w2, hO.ne, hO.fl, hO.oaOf (R.step e1 wr1), (hO.wr w1 H1).mp wr1, fun b h => e1.dom b h, by simpa using hlen, ?_, h1, fun d r' v H' hd g wr r => hq .F d r' v H' hd (e1.trans (g.mono fun b z => (hO.w b).mpr z)) ((hO.wr r' H').mpr wr) r⟩
  rw [List.append_nil]
  exact args_ok (ps := (m, .ref C.hdl) :: rest) (frs := false :: frs) B (fun b z => (hO.w b).mpr z) r1 (by unfold frOk; simp [hf])
end
end VS

namespace VS
open PySem PySem.Spec PyProof.Rows L2
/-! ### how many different ones: len(set(..)) -/
def fmet (ns : List Int) (i : Nat) : List Int := PyProof.Rows.firstMet (fun j => ns.getD j 0) i
def dcount (ns : List Int) : Nat := (fmet ns ns.length).length
theorem fmet_succ (ns : List Int) (i : Nat) : fmet ns (i + 1) = if (fmet ns i).any (· == ns.getD i 0) then fmet ns i else fmet ns i ++ [ns.getD i 0] := PyProof.Rows.firstMet_succ _ i
theorem fmet_mem {ns : List Int} : ∀ {i : Nat}, i ≤ ns.length → ∀ x, x ∈ fmet ns i ↔ x ∈ ns.take i
  | 0, _, x => by rw [List.take_zero]; exact Iff.rfl
  | i + 1, h, x => by
    have ih := fmet_mem (ns := ns) (i := i) (by omega)
    have e : ns.take (i + 1) = ns.take i ++ [ns.getD i 0] := by
      rw [List.take_add_one, List.getElem?_eq_getElem (by omega), List.getD_eq_getElem?_getD, List.getElem?_eq_getElem (by omega)]; rfl
    rw [fmet_succ, e, List.mem_append, List.mem_singleton]
    split
    · rename_i z
      obtain ⟨y, hy, ey⟩ := List.any_eq_true.mp z
      have ey : y = ns.getD i 0 := eq_of_beq ey
      rw [ih]
      refine ⟨.inl, fun q => q.elim id fun q => ?_⟩
      rw [q, ← ey]; exact (ih y).mp hy
    · rw [List.mem_append, List.mem_singleton, ih]
theorem fmet_le (ns : List Int) (i : Nat) : (fmet ns i).length ≤ i := PyProof.Rows.firstMet_length_le _ i
theorem fmet_full {ns : List Int} : ∀ {i : Nat}, i ≤ ns.length → ((fmet ns i).length = i ↔ (ns.take i).Nodup)
  | 0, _ => by simp [fmet, PyProof.Rows.firstMet_zero]
  | i + 1, h => by
    have ih := fmet_full (ns := ns) (i := i) (by omega)
    have hl := fmet_le ns i
    have e : ns.take (i + 1) = ns.take i ++ [ns.getD i 0] := by
      rw [List.take_add_one, List.getElem?_eq_getElem (by omega), List.getD_eq_getElem?_getD, List.getElem?_eq_getElem (by omega)]; rfl
    have hm : ns.getD i 0 ∈ fmet ns i ↔ ns.getD i 0 ∈ ns.take i := fmet_mem (by omega) _
    have ha : (fmet ns i).any (· == ns.getD i 0) = true ↔ ns.getD i 0 ∈ fmet ns i := by
      rw [List.any_eq_true]
      exact ⟨fun ⟨y, hy, ey⟩ => by rw [← eq_of_beq ey]; exact hy, fun q => ⟨_, q, beq_self_eq_true _⟩⟩
    rw [fmet_succ, e, List.nodup_append]
    split
    · rename_i z
      have q := hm.mp (ha.mp z)
      refine ⟨fun z => by omega, fun z => absurd rfl (z.2.2 _ q _ (by simp))⟩
    · rename_i z
      have q : ns.getD i 0 ∉ ns.take i := fun y => z (ha.mpr (hm.mpr y))
      rw [List.length_append, List.length_singleton]
      refine ⟨fun y => ⟨ih.mp (by omega), by simp, fun a ha b hb => ?_⟩, fun y => by have := ih.mpr y.1; omega⟩
      rw [List.mem_singleton] at hb
      subst hb
      exact fun y => q (by rw [← y]; exact ha)
theorem dcount_full {ns : List Int} : dcount ns = ns.length ↔ ns.Nodup := by
  have := fmet_full (ns := ns) (i := ns.length) (Nat.le_refl _)
  rwa [List.take_length] at this
def tLenSet (K : PySem.W.Frag) (ta : TE) : TE := fun σ H Q => ta σ H fun x H1 => ∃ (l : Addr) (ns : List Int), x = .ref l ∧ SqL K H1 l (ns.map V.int) ∧ ns.length ≤ 4000 ∧ Q (.int (dcount ns : Nat)) H1
theorem pe_lenSet {X : Cx} {a : Expr} {ta : TE} {p p2 q pos : Pos} (hg : Gl X "len") (hm : X.mg "len" = none) (hg2 : Gl X "set") (hm2 : X.mg "set" = none) (ha : PE X a ta) (hc : X.calm = true := by rfl)
    (na : starEach [a] X.env = (false, eval a X.env) :: starEach [] X.env := by rfl) : PE X (.Call (.Name "len" p) [.Call (.Name "set" p2) [a] [] q] [] pos) (tLenSet X.K ta) := by
  refine ⟨fun pins s σ H Q I h => ?_⟩
  refine Call_ (ld_blt I hg hm boot_len ?_)
  refine PyProof.Rows.callWith_builtin1 (PyProof.Rows.args_cons ?_ rfl) rfl rfl
  refine Call_ (ld_blt I hg2 hm2 boot_set ?_)
  refine PyProof.Rows.callWith_type1 (PyProof.Rows.args_cons (thn (ha.run pins s σ H _ I h) fun v s1 ⟨x, H1, I1, r1, q1⟩ => PyProof.Rows.args_nil ?_) na) na rfl
  obtain ⟨l, ns, rfl, hq, hl, q1⟩ := q1
  cases r1
  obtain ⟨its, r, pl, hz⟩ := I1.list hq
  have hlen : its.toArray.size = ns.length := by rw [List.size_toArray, ← r.length, List.length_map]
  refine call_set_list (I1.ok.hd hc) pl.isList (ns := ns) (by simpa using r.ints) (by rw [hlen]; unfold scanBound; omega) fun h' tk hS hk => ?_
  refine PyProof.Rows.args_nil ?_
  rw [hlen] at hS
  have hle : dcount ns ≤ ns.length := fmet_le ns _
  obtain ⟨o, es, ep, t, ho, hex, hd, _, _, _, hf, hn⟩ := hS
  have I2 : Inv X pins σ H1 { s1 with heap := h', toks := tk } := I1.kept fun b o e => hk b o (Heap.lt_size e) e
  have hn' : _ = dcount ns := hn
  exact call_len_set ho hex hd hf (by rw [hn'] <;> omega) ⟨.int (dcount ns : Nat), H1, I2.tok _, ⟨_, by rw [hn'] <;> rfl⟩, q1⟩
section
variable {X : Cx} {ω : Type} {C : Cn ω}
def lsetM {ω : Type} {C : Cn ω} (te : EM C) : EM C := fun Γ w Q => te Γ w fun _ d w1 => ∃ ns : List Int, d = .lst (ns.map D.int) ∧ ns.length ≤ 4000 ∧ Q .F (.int (dcount ns : Nat)) w1
theorem vlset {e : Expr} {te : EM C} {p p2 q pos : Pos} (hm : X.mg "len" = none) (hm2 : X.mg "set" = none) (he : VE X C e te) (hg : Gl X "len" := by rfl) (hg2 : Gl X "set" := by rfl) (hc : X.calm = true := by rfl)
    (na : starEach [e] X.env = (false, eval e X.env) :: starEach [] X.env := by rfl) : VE X C (.Call (.Name "len" p) [.Call (.Name "set" p2) [e] [] q] [] pos) (lsetM te) :=
  PEimp (pe_lenSet hg hm hg2 hm2 he hc na) fun σ H Q ⟨Z, Γ, w, Q0, R, ht, hq⟩ => ⟨Z, Γ, w, _, R, ht, fun md d w1 v H1 h1 e1 wr1 r1 => by
    obtain ⟨ns, rfl, hl, h1⟩ := h1
    obtain ⟨a, vs, rfl, ha, q⟩ := r1.lst
    cases RepAll.ints ns q
    exact ⟨a, ns, rfl, .of ha, hl, hq _ _ _ _ _ h1 e1 wr1 (RepM.flat (d := .int _) rfl)⟩⟩
end
end VS

namespace VS
open PySem PySem.Spec PyProof.Rows L2
/-! ### x, y = a, b -/
section
variable {X : Cx} {ω : Type} {C : Cn ω}
def parM (i j : Nat) (ts : AM C) : SM C := fun E Γ w => ts Γ w fun ps w1 => ∃ m1 d1 m2 d2, ps = [(m1, d1), (m2, d2)] ∧ d1.flat = true ∧ d2.flat = true ∧ E.nx ((Γ.set i (.val true d1)).set j (.val true d2)) w1
theorem vpar {st : Stmt} {ts : AM C} (i j : Nat) (hp : PS X st (tPar i j (lA C ts))) : VS1 X C st (parM i j ts) := PSimp hp fun D σ H ⟨Z, Γ, w, E0, R, ht, o⟩ =>
  ⟨Z, Γ, w, _, R, ht, fun ps w1 vs H1 h1 e1 wr1 r1 => by
    obtain ⟨m1, d1, m2, d2, rfl, f1, f2, h1⟩ := h1
    obtain ⟨u, v, rfl, q1, q2⟩ := r1.two
    refine ⟨u, v, rfl, ?_⟩
    have R1 := R.step e1 wr1
    have B := R.bs.ext e1
    obtain ⟨R2, F2⟩ := setAll_ok (fr := false) [i, j] (ds := [d1, d2]) (vs := [u, v]) R1 ⟨_, _, rfl, Rep.flat _ f1 (q1.any B), _, _, rfl, Rep.flat _ f2 (q2.any B), rfl⟩ rfl
    have e : setAll false [i, j] [d1, d2] Γ = (Γ.set i (.val true d1)).set j (.val true d2) := by
      show (Γ.set i (.val (false || d1.flat) d1)).set j (.val (false || d2.flat) d2) = _
      rw [f1, f2]; rfl
    rw [e] at R2 F2
    exact o.nx _ _ _ _ h1 R2 ((Frm.of_ext e1).trans F2)⟩
end
end VS

namespace VS
open PySem PySem.Spec PyProof.Rows L2
/-! ### list.count of texts -/
def eqs (k : Str) (v : Value) : Bool := match v with
  | .str n _ => n == k
  | _ => false
theorem eqs_gives {k : Str} {t : Tok} : ∀ {ns : List Str} {us : List Value}, Vals (ns.map V.str) us → ∀ y ∈ us, MeetsSeq.EqGives y (.str k t) (eqs k y)
  | [], _, .nil => fun y hy => by cases hy
  | n :: ns, _, .cons r h => fun y hy => by
    rcases List.mem_cons.mp hy with e | e
    · obtain ⟨t', rfl⟩ := r
      rw [e]
      have := SeqRoads2.EqGives.str n k t' t
      rw [PySem.SeqAt.str_beq] at this
      exact this
    · exact eqs_gives h y e
theorem eqs_count {k : Str} : ∀ {ns : List Str} {us : List Value}, Vals (ns.map V.str) us → us.countP (eqs k) = ns.countP (· == k)
  | [], _, .nil => rfl
  | n :: ns, _, .cons r h => by
    obtain ⟨t', rfl⟩ := r
    have ih := eqs_count (k := k) h
    rw [List.countP_cons, List.countP_cons, ih] <;> rfl
def rCntS (K : PySem.W.Frag) : V → List V → Hp → VK → Prop := fun x xs H Q => ∃ (p : Addr) (ns : List Str) (k : Str), x = .ref p ∧ xs = [.str k] ∧ SqL K H p (ns.map V.str) ∧ Q (.int (ns.countP (· == k) : Nat)) H
theorem mt_scount {X : Cx} : MtR X "list.count" (rCntS X.K) := by
  intro pins s σ H x xs v us Q I rx rxs h
  obtain ⟨p, ns, k, rfl, rfl, hs, q⟩ := h
  cases rx
  obtain ⟨u, rfl, ru⟩ := rxs.one
  obtain ⟨t, rfl⟩ := ru
  obtain ⟨its, rv, ⟨⟨cls, dd, data, sl⟩, n, ho, hc, hdn, hd⟩, hlen⟩ := I.list hs
  simp only at hc hd
  subst hc hd
  refine call_meets PySem.F.slot_list_count ⟨_, ho, rfl⟩ PySem.F.entry_list_count (PySem.F.args_list_count_2 _ _)
    (SeqAt.list_countAt p its.toArray n dd sl (.str k t) (eqs k)) ⟨ho, fun y hy => (eqs_gives rv y (by simpa using hy)).at _ _, ?_⟩
  have ec : its.toArray.toList.countP (eqs k) = ns.countP (· == k) := eqs_count rv
  refine ⟨.int (ns.countP (· == k) : Nat), H, I.tok _, ⟨s.toks, ?_⟩, q⟩
  show Value.int ((its.toArray.toList.countP (eqs k) : Nat) : Int) s.toks = Value.int ((ns.countP (· == k) : Nat) : Int) s.toks
  rw [ec]
section
variable {X : Cx} {ω : Type} {C : Cn ω}
def cntM (te ta : EM C) : EM C := fun Γ w Q => te Γ w fun _ d w1 => ∃ ns : List Str, d = .lst (ns.map D.str) ∧ ta Γ w1 fun _ e w2 => ∃ k, e = .str k ∧ Q .F (.int ((ns.countP (· == k) : Nat) : Int)) w2
theorem vcnt {st : Expr} {te ta : EM C} (hp : PE X st (tBM X.K "list" (rCntS X.K) (lE C te) (lA C (consA ta nilA)))) : VE X C st (cntM te ta) :=
  PEimp hp fun σ H Q ⟨Z, Γ, w, Q0, R, ht, hq⟩ => ⟨Z, Γ, w, _, R, ht, fun md d w1 v H1 h1 e1 wr1 r1 => by
    obtain ⟨ns, rfl, h1⟩ := h1
    obtain ⟨a, vs, rfl, ha, q⟩ := r1.lst
    cases RepAll.strs ns q
    refine ⟨.inl ⟨rfl, _, SqL.of ha⟩, Z, Γ, w1, (fun ps w2 => match ps with | [(md, e)] => ∃ k, e = .str k ∧ Q0 .F (.int ((ns.countP (· == k) : Nat) : Int)) w2 | _ => False), R.step e1 wr1, h1, fun ps w2 us H2 h2 e2 wr2 r2 => ?_⟩
    dsimp only at h2
    split at h2
    · rename_i md2 e
      obtain ⟨k, rfl, h2⟩ := h2
      obtain ⟨u, rfl, ru⟩ := r2.one
      have eu : u = .str k := ru.any ((R.step e1 wr1).bs.ext e2)
      subst eu
      obtain ⟨a', vs', ea, ha', q'⟩ := (r1.ext (R.bs.ext e1) e2).lst
      cases ea
      cases RepAll.strs ns q'
      exact ⟨a, ns, k, rfl, rfl, .of ha', hq _ _ _ _ _ h2 (e1.trans e2) wr2 (RepM.flat (d := .int _) rfl)⟩
    · exact h2.elim⟩
end
end VS

namespace VS
open PySem PySem.Spec PyProof.Rows L2
/-! ### x.append(.. y.pop(i) ..): expressions that change what a name owns; their values are flat -/
abbrev GM {ω : Type} (C : Cn ω) := List Sl → ω → (D → List Sl → ω → Prop) → Prop
def lG {ω : Type} (C : Cn ω) (t : GM C) : TE := fun σ H Q => ∃ Z Γ w Q0, Rel C Z Γ w σ H ∧ t Γ w Q0 ∧ ∀ d Γ' w' v H', Q0 d Γ' w' → Rel C Z Γ' w' σ H' → Frm C Z Γ σ H Γ' σ H' → d.flat = true → Rep H' d (fun _ => True) v → Q v H'
abbrev VG (X : Cx) {ω : Type} (C : Cn ω) (e : Expr) (t : GM C) : Prop := PE X e (lG C t)
section
variable {X : Cx} {ω : Type} {C : Cn ω} {a b e : Expr} {st : Stmt} {ta ti : EM C} {tb t : GM C} {pos : Pos}
theorem Rep.stay {H H' : Hp} {d : D} {O : Addr → Prop} {v : V} (f : d.flat = true) (r : Rep H d O v) (ht : ∀ b vs, H b = some (.tup vs) → H' b = some (.tup vs)) : ∀ O', Rep H' d O' v := fun O' =>
  Rep.flat d f (Rep.move d (Rep.flat (O' := fun _ => True) d f r) (fun _ _ z => z) (fun _ _ _ n => absurd trivial n) ht)
def popG (y : Nat) (ti : EM C) : GM C := fun Γ w Q => ∃ l, Γ[y]? = some (.own (.lst l)) ∧ ti Γ w fun _ k w1 => ∃ i j d, k = .int i ∧ -(2 ^ 63) ≤ i ∧ i < 2 ^ 63 ∧ seqIndex? i l.length = some j ∧ l[j]? = some d ∧ d.flat = true ∧ Q d (Γ.set y (.own (.lst (l.eraseIdx j)))) w1
theorem vpop (y : Nat) (hp : PE X e (tBM X.K "list" rPopAt (tVar y) (lA C (consA ti nilA)))) : VG X C e (popG y ti) := PEimp hp fun σ H Q ⟨Z, Γ, w, Q0, R, ht, hq⟩ => by
  obtain ⟨l, hΓ, ht⟩ := ht
  obtain ⟨a, vs, ha, hl, q, oa⟩ := own_lst R hΓ
  refine ⟨_, ha, .inl ⟨rfl, _, SqL.of hl⟩, Z, Γ, w, (fun ps w1 => match ps with | [(md, k)] => (∃ i j d, k = .int i ∧ -(2 ^ 63) ≤ i ∧ i < 2 ^ 63 ∧ seqIndex? i l.length = some j ∧ l[j]? = some d ∧ d.flat = true ∧ Q0 d (Γ.set y (.own (.lst (l.eraseIdx j)))) w1) | _ => False), R, ht, fun ps w1 us H1 h1 e1 wr1 r1 => ?_⟩
  dsimp only at h1
  split at h1
  · rename_i md k
    obtain ⟨i, j, d, rfl, i0, i1, hj, hd, hf, h1⟩ := h1
    obtain ⟨v, rfl, rx⟩ := r1.one
    have ev : v = .int i := rx.any (R.bs.ext e1)
    subst ev
    have R1 := R.step e1 wr1
    obtain ⟨a', vs', ha', hl', q', oa'⟩ := own_lst R1 hΓ
    rw [ha] at ha'; cases ha'
    obtain ⟨u, hu, ru⟩ := q'.get hd
    refine ⟨a, vs', i, j, u, rfl, rfl, hl', i0, i1, by rw [q'.length]; exact hj, hu, ?_⟩
    have nt : ∀ us, H1 a ≠ some (.tup us) := fun us z => by rw [hl'] at z; cases z
    obtain ⟨R3, F3⟩ := R1.mut (o := .lst (vs'.eraseIdx j)) (d' := .lst (l.eraseIdx j)) hΓ ha nt ⟨_, upd_same, upd_rep nt oa' (q'.erase j)⟩
    exact hq _ _ _ _ _ h1 R3 ((Frm.of_ext e1).trans F3) hf (Rep.stay hf ru F3.ext.tup _)
  · exact h1.elim
/-- a[e], e such an expression -/
def binG (f : F2) (ta : EM C) (tb : GM C) : GM C := fun Γ w Q => ta Γ w fun _ da w1 => da.flat = true ∧ tb Γ w1 fun k Γ' w2 => f (.F, da) (.F, k) fun _ d => d.flat = true ∧ Q d Γ' w2
theorem vixG {r : R2} {f : F2} (hr : IxR X r) (s : Snd2 C r f) (hs : PlainIx b) (ha : VE X C a ta) (hb : VG X C b tb) : VG X C (.Subscript a b pos) (binG f ta tb) := PEimp (pe_ix hr ha hb hs) fun σ H Q ⟨Z, Γ, w, Q0, R, ht, hq⟩ =>
  ⟨Z, Γ, w, _, R, ht, fun md da w1 v1 H1 h1 e1 wr1 r1 => by
    obtain ⟨hf, h1⟩ := h1
    refine ⟨Z, Γ, w1, _, R.step e1 wr1, h1, fun k Γ' w2 v2 H2 h2 R2 F2 hk r2 => ?_⟩
    refine s (p := (.F, da)) (q := (.F, k)) R2 R2.bs (Rep.stay hf (r1.any (R.bs.ext e1)) F2.ext.tup _) (Rep.flat k hk r2) h2 fun md' d v H3 kk g rr => ?_
    obtain ⟨hd, kk⟩ := kk
    have R3 := R2.grow g
    exact hq _ _ _ _ _ kk R3 (((Frm.of_ext e1).trans F2).trans (.of_ext (.same g))) hd (Rep.flat d hd (rr.any (R2.bs.ext (.same g))))⟩
/-- (c, e), c a number -/
def prG (c : Int) (t : GM C) : GM C := fun Γ w Q => t Γ w fun d Γ' w' => Q (.tup [.int c, d]) Γ' w'
theorem vprG {c : Int} {x1} (hc : PE X a (tC (.int c))) (he : VG X C e t) (h1 : starEach (a :: [e]) X.env = (false, eval a X.env) :: starEach [e] X.env := by rfl) (h2 : starEach (e :: []) X.env = (false, eval e X.env) :: starEach [] X.env := by rfl) : VG X C (.Tuple [a, e] x1 pos) (prG c t) :=
  PEimp (pe_tup (pa_cons hc (pa_cons he pa_nil h2) h1)) fun σ H Q ⟨Z, Γ, w, Q0, R, ht, hq⟩ => by
    refine ⟨Z, Γ, w, _, R, ht, fun d Γ' w' v H' h R1 F1 hf r => ⟨(by rw [sizeLine_eq]; show 2 ≤ _; decide), fun p hp => ?_⟩⟩
    have g := same_new (o := HO.tup [.int c, v]) hp
    refine hq _ _ _ _ _ h (R1.grow g) (F1.trans (.of_ext (.same g))) (by show (true && (d.flat && true)) = true; rw [hf]; rfl) ⟨p, _, rfl, upd_same, _, _, rfl, rfl, _, _, rfl, ?_, rfl⟩
    exact Rep.stay hf r (fun b vs h => g b _ h) _
def lG1 (C : Cn ω) (t : GM C) : TA := fun σ H Q => lG C t σ H fun v H' => Q [v] H'
theorem vaG (he : VG X C e t) (h2 : starEach (e :: []) X.env = (false, eval e X.env) :: starEach [] X.env := by rfl) : PA X [e] (lG1 C t) := PAimp (pa_cons he pa_nil h2) fun σ H Q h => h
def appG (x : Nat) (t : GM C) : SM C := fun E Γ w => (∃ l0, Γ[x]? = some (.own (.lst l0))) ∧ t Γ w fun d Γ' w' => ∃ l, Γ'[x]? = some (.own (.lst l)) ∧ l.length < 1000000 ∧ E.nx (Γ'.set x (.own (.lst (l ++ [d])))) w'
theorem vappG (x : Nat) (hp : PS X st (tDrop (tBM X.K "list" rAppend (tVar x) (lG1 C t)))) : VS1 X C st (appG x t) :=
  PSimp hp fun D σ H ⟨Z, Γ, w, E0, R, ht, o⟩ => by
    obtain ⟨⟨l0, hΓ⟩, ht⟩ := ht
    obtain ⟨a, vs, ha, hl, q, oa⟩ := own_lst R hΓ
    refine ⟨_, ha, .inl ⟨rfl, _, SqL.of hl⟩, Z, Γ, w, _, R, ht, fun d Γ' w' v H1 h1 R1 F1 hf r1 => ?_⟩
    obtain ⟨l, hΓ', hlen, h1⟩ := h1
    obtain ⟨a', vs', ha', hl', q', oa'⟩ := own_lst R1 hΓ'
    rw [ha] at ha'; cases ha'
    refine ⟨a, vs', v, rfl, rfl, hl', by rw [q'.length]; exact Nat.lt_of_lt_of_le hlen (by rw [sizeLine_eq]; decide), ?_⟩
    have nt : ∀ us, H1 a ≠ some (.tup us) := fun us z => by rw [hl'] at z; cases z
    obtain ⟨R3, F3⟩ := R1.mut (o := .lst (vs' ++ [v])) (d' := .lst (l ++ [d])) hΓ' ha nt ⟨_, upd_same, upd_rep nt oa' (q'.append (.one (Rep.flat d hf r1)))⟩
    exact o.nx _ _ _ _ h1 R3 (F1.trans F3)
end
end VS

namespace VS
open PySem PySem.Spec PyProof.Rows L2
/-! ### x, y = a, b with lists; names that own them -/
section
variable {X : Cx} {ω : Type} {C : Cn ω} {a b : Expr} {ta tb : EM C}
def lA2 (C : Cn ω) (ta tb : EM C) : TA := fun σ H Q => lE C ta σ H fun v1 H1 => lE C tb σ H1 fun v2 H2 => Q [v1, v2] H2
theorem va2 (ha : VE X C a ta) (hb : VE X C b tb) (h1 : starEach (a :: [b]) X.env = (false, eval a X.env) :: starEach [b] X.env := by rfl) (h2 : starEach (b :: []) X.env = (false, eval b X.env) :: starEach [] X.env := by rfl) : PA X [a, b] (lA2 C ta tb) :=
  PAimp (pa_cons ha (pa_cons hb pa_nil h2) h1) fun σ H Q h => h
/-- the second name owns its list; the first one, too, or its value is flat -/
def parO (i j : Nat) (oi : Bool) (ta tb : EM C) : SM C := fun E Γ w => ta Γ w fun m1 d1 w1 => tb Γ w1 fun m2 d2 w2 => (if oi = true then m1 = .F ∧ d1.isC = true else d1.flat = true) ∧ m2 = .F ∧ d2.isC = true ∧ E.nx ((Γ.set i (if oi = true then .own d1 else .val true d1)).set j (.own d2)) w2
theorem vparO {st : Stmt} (i j : Nat) (oi : Bool) (hp : PS X st (tPar i j (lA2 C ta tb))) : VS1 X C st (parO i j oi ta tb) := PSimp hp fun D σ H ⟨Z, Γ, w, E0, R, ht, o⟩ =>
  ⟨Z, Γ, w, _, R, ht, fun m1 d1 w1 v1 H1 h1 e1 wr1 r1 => ⟨Z, Γ, w1, _, R.step e1 wr1, h1, fun m2 d2 w2 v2 H2 h2 e2 wr2 r2 => by
    obtain ⟨c1, rfl, hd2, h2⟩ := h2
    refine ⟨v1, v2, rfl, ?_⟩
    cases oi with
    | true =>
      rw [if_pos rfl] at c1
      obtain ⟨rfl, hd1⟩ := c1
      obtain ⟨R1, F1⟩ := R.setOwn (i := i) e1 wr1 hd1 r1
      obtain ⟨R2, F2⟩ := R1.setOwn (i := j) e2 wr2 hd2 r2
      exact o.nx _ _ _ _ h2 R2 (F1.trans F2)
    | false =>
      rw [if_neg Bool.false_ne_true] at c1
      have Rs := R.step e1 wr1
      have R1 := Rs.setVal (i := i) (fr := true) (Rep.flat d1 c1 (r1.any (R.bs.ext e1)))
      have F1 : Frm C Z Γ σ H (Γ.set i (.val true d1)) (σ.set i (some v1)) H1 := (Frm.of_ext e1).trans (Frm.setVal Rs.len)
      obtain ⟨R2, F2⟩ := R1.setOwn (i := j) e2 wr2 hd2 r2
      exact o.nx _ _ _ _ h2 R2 (F1.trans F2)⟩⟩
/-- both names take what may be a list -/
def parV (i j : Nat) (ts : AM C) : SM C := fun E Γ w => ts Γ w fun ps w1 => (jn ps).ok = true ∧ ∃ d1 d2, ps.map (·.2) = [d1, d2] ∧ E.nx (setAll (jn ps).fr [i, j] [d1, d2] Γ) w1
theorem vparV {st : Stmt} {ts : AM C} (i j : Nat) (hp : PS X st (tPar i j (lA C ts))) : VS1 X C st (parV i j ts) := PSimp hp fun D σ H ⟨Z, Γ, w, E0, R, ht, o⟩ =>
  ⟨Z, Γ, w, _, R, ht, fun ps w1 vs H1 h1 e1 wr1 r1 => by
    obtain ⟨hm, d1, d2, hd, h1⟩ := h1
    have R1 := R.step e1 wr1
    have B := R.bs.ext e1
    have q := r1.jn' B hm
    rw [hd] at q
    have hl := q.length
    obtain ⟨u, _, rfl, q1, v, _, rfl, q2, rfl⟩ := q
    refine ⟨u, v, rfl, ?_⟩
    have hav : ∀ c, Ow C Z Γ σ c ∨ ((jn ps).fr = true ∧ C.A0 c) → Av C Z Γ σ H (jn ps) c := fun c z => by
      revert hm z
      generalize jn ps = m
      intro hm z
      cases m with
      | F => exact R.bs.sub c (z.imp id And.right)
      | PF => exact z.imp id And.right
      | P => exact z.elim id fun y => by cases y.1
      | B => cases hm
    obtain ⟨R2, F2⟩ := setAll_ok (fr := (jn ps).fr) [i, j] (ds := [d1, d2]) (vs := [u, v]) R1 (RepAll.move (O := Av C Z Γ σ H (jn ps)) [d1, d2] ⟨_, _, rfl, q1, _, _, rfl, q2, rfl⟩ (fun c _ z => hav c z) (fun _ _ h _ => h) fun _ _ h => h) rfl
    exact o.nx _ _ _ _ h1 R2 ((Frm.of_ext e1).trans F2)⟩
/-- the same, by way of a tuple (a name is a cell) -/
theorem vparOC {st : Stmt} {t : TE} (i j : Nat) (oi : Bool) (hp : PS X st (tAsg t ((Tg.tp [i, j]).g X.K))) (ht : ∀ σ H Q, (lA2 C ta tb σ H fun vs H1 => vs.length ≤ sizeLine ∧ ∀ p, H1 p = none → Q (.ref p) (upd H1 p (.tup vs))) → t σ H Q := by intro _ _ _ h; exact h) : VS1 X C st (parO i j oi ta tb) := PSimp hp fun D σ H ⟨Z, Γ, w, E0, R, h0, o⟩ => by
  refine ht σ H _ ⟨Z, Γ, w, _, R, h0, fun m1 d1 w1 v1 H1 h1 e1 wr1 r1 => ⟨Z, Γ, w1, _, R.step e1 wr1, h1, fun m2 d2 w2 v2 H2 h2 e2 wr2 r2 => ?_⟩⟩
  obtain ⟨c1, rfl, hd2, h2⟩ := h2
  refine ⟨(by rw [sizeLine_eq]; show 2 ≤ _; decide), fun p hp => ?_⟩
  have g := same_new (o := HO.tup [v1, v2]) hp
  refine ⟨p, [v1, v2], rfl, .of upd_same, rfl, gNames_ok [i, j] rfl ?_⟩
  show D.nx ((σ.set i (some v1)).set j (some v2)) _
  cases oi with
  | true =>
    rw [if_pos rfl] at c1
    obtain ⟨rfl, hd1⟩ := c1
    obtain ⟨R1, F1⟩ := R.setOwn (i := i) e1 wr1 hd1 r1
    obtain ⟨R2, F2⟩ := R1.setOwn (i := j) e2 wr2 hd2 r2
    exact o.nx _ _ _ _ h2 (R2.grow g) ((F1.trans F2).trans (.of_ext (.same g)))
  | false =>
    rw [if_neg Bool.false_ne_true] at c1
    have Rs := R.step e1 wr1
    have R1 := Rs.setVal (i := i) (fr := true) (Rep.flat d1 c1 (r1.any (R.bs.ext e1)))
    have F1 : Frm C Z Γ σ H (Γ.set i (.val true d1)) (σ.set i (some v1)) H1 := (Frm.of_ext e1).trans (Frm.setVal Rs.len)
    obtain ⟨R2, F2⟩ := R1.setOwn (i := j) e2 wr2 hd2 r2
    exact o.nx _ _ _ _ h2 (R2.grow g) ((F1.trans F2).trans (.of_ext (.same g)))
end
end VS

namespace VS
open PySem PySem.Spec PyProof.Rows L2
/-! ### sorted(xs), tuples of whole numbers; dict(xs), pairs -/
def tI (l : List Int) : D := .tup (l.map D.int)
section
variable {ω : Type} {C : Cn ω}
/-- the numbers of the tuple at a value -/
def tupOf (H : Hp) : V → List Int
  | .ref t => (match H t with
    | some (.tup vs) => vs.map fun v => (match v with | .int i => i | _ => 0)
    | _ => [])
  | _ => []
theorem back_ints : ∀ ns : List Int, (ns.map V.int).map (fun v => (match v with | .int i => i | _ => 0)) = ns
  | [] => rfl
  | n :: ns => by
    show n :: ((ns.map V.int).map _) = _
    rw [back_ints ns]
theorem tupOf_rep {H : Hp} {O : Addr → Prop} {l : List Int} {v : V} (r : Rep H (tI l) O v) : tupOf H v = l ∧ ∃ t, v = .ref t ∧ H t = some (.tup (l.map V.int)) := by
  obtain ⟨t, vs, rfl, h, q⟩ := r
  cases RepAll.ints l q
  refine ⟨?_, t, rfl, h⟩
  show (match H t with | some (.tup vs) => vs.map _ | _ => []) = l
  rw [h]; exact back_ints l
theorem tups_of {H : Hp} {O : Addr → Prop} : ∀ {ls : List (List Int)} {us : List V}, RepAll H (ls.map tI) O us → us.map (tupOf H) = ls ∧ ∀ v ∈ us, ∃ t, v = .ref t ∧ H t = some (.tup ((tupOf H v).map V.int))
  | [], _, r => by cases r; exact ⟨rfl, fun v hv => by cases hv⟩
  | l :: ls, _, r => by
    obtain ⟨v, us, rfl, h, q⟩ := r
    obtain ⟨e1, e2⟩ := tups_of q
    obtain ⟨f1, t, f2, f3⟩ := tupOf_rep h
    refine ⟨by rw [List.map_cons, f1, e1], fun u hu => ?_⟩
    rcases List.mem_cons.mp hu with rfl | hu
    · exact ⟨t, f2, by rw [f1]; exact f3⟩
    · exact e2 u hu
theorem tups_rep {H : Hp} {O : Addr → Prop} : ∀ {us : List V}, (∀ v ∈ us, ∃ t, v = .ref t ∧ H t = some (.tup ((tupOf H v).map V.int))) → RepAll H ((us.map (tupOf H)).map tI) O us
  | [], _ => rfl
  | v :: us, h => by
    obtain ⟨t, e1, e2⟩ := h v (List.mem_cons_self ..)
    exact ⟨v, us, rfl, ⟨t, _, e1, e2, RepAll.ofInts _⟩, tups_rep fun u hu => h u (List.mem_cons_of_mem _ hu)⟩
theorem tupI_of {K0 : PySem.W.Frag} {H : Hp} {v : V} (h : ∃ t, v = .ref t ∧ H t = some (.tup ((tupOf H v).map V.int))) : TupI K0 H v (tupOf H v) := by
  obtain ⟨t, e1, e2⟩ := h
  exact ⟨t, e1, .of e2⟩
def sortedTF (d : Nat) (B : Int) : Fn := fun ps K => ∃ (m : Md) (ls : List (List Int)), ps = [(m, .lst (ls.map tI))] ∧ ls.length < 64 ∧ (∀ l ∈ ls, l.length = d ∧ TS.Bd B l) ∧ ∀ ks : List (List Int), ks.Perm ls → ks.Pairwise (fun x y => TS.code B x ≤ TS.code B y) → K .F (.lst (ks.map tI))
theorem s_sortT {K0 : PySem.W.Frag} {d : Nat} {B : Int} : SndC C (rSortU K0 d B) (sortedTF d B) := by
  intro Z Γ w σ Hs H vs ps K Q R Bb r h hq
  obtain ⟨m, ls, rfl, hlen, hd, h⟩ := h
  obtain ⟨v, rfl, rr⟩ := r.one
  obtain ⟨a, us, rfl, hl, q⟩ := RepM.lst (ds := ls.map tI) rr
  obtain ⟨e1, e2⟩ := tups_of q
  have mem : ∀ x ∈ us, tupOf H x ∈ ls := fun x hx => by rw [← e1]; exact List.mem_map.mpr ⟨x, hx, rfl⟩
  refine ⟨a, us, rfl, .of hl, by rw [q.length, List.length_map]; exact hlen, fun x hx => ⟨tupOf H x, tupI_of (e2 x hx), hd _ (mem x hx)⟩, fun ys p hp hs hn => ?_⟩
  have e3 : ∀ v ∈ ys, ∃ t, v = .ref t ∧ H t = some (.tup ((tupOf H v).map V.int)) := fun v hv => e2 v (hp.mem_iff.mp hv)
  refine hq _ _ _ _ (h (ys.map (tupOf H)) (by rw [← e1]; exact hp.map _) ?_) (same_new hn) (RepM.newL hn Bb rfl (tups_rep e3))
  rw [List.pairwise_map]
  exact hs.imp_of_mem fun {x y} hx hy z => z _ _ (tupI_of (e3 x hx)) (tupI_of (e3 y hy))
/-- dict(xs) -/
def rDictP (K : PySem.W.Frag) : List V → Hp → VK → Prop := fun xs H Q => ∃ (a : Addr) (ps : List Addr) (kvs : List (Key × V)), xs = [V.ref a] ∧ SqL K H a (ps.map V.ref) ∧ Paired (fun p kv => SqT K H p [kV kv.1, kv.2]) ps kvs ∧ ∀ p : Addr, H p = none → Q (.ref p) (upd H p (.dK (mergeK [] kvs)))
theorem call_dictPr {X : Cx} (hc : X.calm = true) : CallR X (.type "dict") (rDictP X.K) := call_dictP hc
def dictPF : Fn := fun ps K => ∃ (m : Md) (zs : List (Int × Int)), ps = [(m, .lst (zs.map pD))] ∧ (zs.map (·.1)).Nodup ∧ K .F (.dct (zs.map (·.1)) (zs.map fun z => .int z.2))
theorem putK_new {k : Key} {v : V} {kvs : List (Key × V)} (h : k ∉ kvs.map (·.1)) : putK kvs k v = kvs ++ [(k, v)] := by
  unfold putK
  rw [if_neg]
  intro z
  obtain ⟨x, hx, e⟩ := List.any_eq_true.mp z
  exact h (List.mem_map.mpr ⟨x, hx, of_decide_eq_true e⟩)
theorem merge_new : ∀ {more kvs : List (Key × V)}, ((kvs ++ more).map (·.1)).Nodup → mergeK kvs more = kvs ++ more
  | [], kvs, _ => by rw [List.append_nil]; rfl
  | m :: more, kvs, h => by
    have hn : m.1 ∉ kvs.map (·.1) := fun z => by
      rw [List.map_append, List.nodup_append] at h
      exact h.2.2 _ z _ (List.mem_map.mpr ⟨m, List.mem_cons_self .., rfl⟩) rfl
    show mergeK (putK kvs m.1 m.2) more = _
    rw [putK_new hn, merge_new (by rw [List.append_assoc]; exact h), List.append_assoc]; rfl
def kvz (z : Int × Int) : Key × V := (.inl z.1, .int z.2)
theorem pairs_of {K0 : PySem.W.Frag} {H : Hp} {O : Addr → Prop} : ∀ {zs : List (Int × Int)} {us : List V}, RepAll H (zs.map pD) O us → ∃ ps : List Addr, us = ps.map V.ref ∧ Paired (fun p (kv : Key × V) => SqT K0 H p [kV kv.1, kv.2]) ps (zs.map kvz)
  | [], _, r => by cases r; exact ⟨[], rfl, .nil⟩
  | z :: zs, _, r => by
    obtain ⟨v, us, rfl, ⟨t, vs, rfl, h, q1⟩, q⟩ := r
    obtain ⟨ps, rfl, hp⟩ := pairs_of (K0 := K0) q
    obtain ⟨_, _, rfl, e1, _, _, rfl, e2, e3⟩ := q1
    cases e1; cases e2; cases e3
    exact ⟨t :: ps, rfl, .cons (.of h) hp⟩
theorem kvz_keys (zs : List (Int × Int)) : (zs.map kvz).map (·.1) = (zs.map (·.1)).map Sum.inl := by rw [List.map_map, List.map_map]; rfl
theorem s_dictP {K0 : PySem.W.Frag} : SndC C (rDictP K0) dictPF := by
  intro Z Γ w σ Hs H vs ps K Q R Bb r h hq
  obtain ⟨m, zs, rfl, hnd, h⟩ := h
  obtain ⟨v, rfl, rr⟩ := r.one
  obtain ⟨a, us, rfl, hl, q⟩ := RepM.lst (ds := zs.map pD) rr
  obtain ⟨as, rfl, hp⟩ := pairs_of (K0 := K0) q
  refine ⟨a, as, _, rfl, .of hl, hp, fun p hn => ?_⟩
  rw [merge_new (kvs := []) (by
    rw [List.nil_append, kvz_keys, List.Nodup, List.pairwise_map]
    exact List.Pairwise.imp (fun h e => h (Sum.inl.inj e)) hnd), List.nil_append]
  refine hq _ _ _ _ h (same_new hn) (RepM.newK hn Bb rfl (kvz_keys zs) ?_)
  have e : (zs.map kvz).map (·.2) = (zs.map (·.2)).map V.int := by rw [List.map_map, List.map_map]; rfl
  have e2 : (zs.map fun z => D.int z.2) = (zs.map (·.2)).map D.int := by rw [List.map_map]; rfl
  rw [e, e2]; exact RepAll.ofInts _
end
end VS

namespace VS
open PySem PySem.Spec PyProof.Rows L2
/-! ### sorted(xs), pairs of a tuple of whole numbers and a whole number -/
def IsNest (h : Heap) (v : Value) (ns : List Int) (k : Int) : Prop := ∃ a o t n b items, v = .ref a ∧ h.get? a = some o ∧ o.cls = .type "tuple" ∧ o.data = .seq #[.ref b, .int k t] n ∧ IsTup h b items ∧ Vals (ns.map V.int) items.toList
theorem IsNest.keeps {h h' : Heap} {v : Value} {ns : List Int} {k : Int} (p : IsNest h v ns k) (kk : ∀ b o, h.get? b = some o → o.cls = .type "tuple" → h'.get? b = some o) : IsNest h' v ns k := by
  obtain ⟨a, o, t, n, b, items, e, ho, hc, hd, ⟨o2, ho2, hc2, hd2⟩, hi⟩ := p
  exact ⟨a, o, t, n, b, items, e, kk _ _ ho hc, hc, hd, ⟨o2, kk _ _ ho2 hc2, hc2, hd2⟩, hi⟩
theorem nest_firsts {h : Heap} : ∀ {vs : List Value}, (∀ v ∈ vs, ∃ ns k, IsNest h v ns k) → ∃ fs, W.KatTups h vs fs ∧ fs.length = vs.length ∧ ∀ f ∈ fs, ∃ b o, f = .ref b ∧ h.get? b = some o ∧ o.cls = .type "tuple"
  | [], _ => ⟨[], by unfold W.KatTups; trivial, rfl, fun f hf => by cases hf⟩
  | v :: vs, hp => by
    obtain ⟨fs, h1, h2, h3⟩ := nest_firsts fun u hu => hp u (List.mem_cons_of_mem _ hu)
    obtain ⟨ns, k, a, o, t, n, b, items, e, ho, hc, hd, ⟨o2, ho2, hc2, hd2⟩, hi⟩ := hp v (List.mem_cons_self ..)
    refine ⟨.ref b :: fs, by unfold W.KatTups; exact ⟨⟨a, o, _, n, e, ho, hc, hd, rfl⟩, h1⟩, by simp [h2], fun f hf => ?_⟩
    rcases List.mem_cons.mp hf with rfl | hf
    · exact ⟨b, o2, rfl, ho2, hc2⟩
    · exact h3 f hf
/-- the ranks of tuples tell their order -/
structure Rkd (r : List Int → Int) (ns ms : List Int) : Prop where
  eq : ns = ms ↔ r ns = r ms
  lt : HT.lexLt ns ms = decide (r ns < r ms)
theorem nest_cmp {prog : Program} {w : World} {A : Around} {s : Shared} {vs : List Value} {kf : Value → List Int × Int} {r : List Int → Int} (hu : A.units < cLine) (hp : ∀ v ∈ vs, IsNest s.heap v (kf v).1 (kf v).2) (hr : ∀ v ∈ vs, ∀ u ∈ vs, Rkd r (kf v).1 (kf u).1) :
    SrtO.Cmp prog w A s (tuples' false) (fun p => p.1 ∈ vs) (SrtO.lt2 fun v u => SrtO.lexB (r (kf v).1, (kf v).2) (r (kf u).1, (kf u).2)) := by
  intro p q hm hm'
  obtain ⟨a, o, t, n, b, items, e, ho, hc, hd, it, hi⟩ := hp p.1 hm
  obtain ⟨a', o', t', n', b', items', e', ho', hc', hd', it', hi'⟩ := hp q.1 hm'
  have rk := hr p.1 hm q.1 hm'
  have key1 : IsTupleKey (intKind prog w) s.heap (kf p.1).1 b := by
    obtain ⟨o2, g1, g2, g3, g4⟩ := it
    exact ⟨o2, _, g3, g1, g2, g4, items_of_vals hi⟩
  have key2 : IsTupleKey (intKind prog w) s.heap (kf q.1).1 b' := by
    obtain ⟨o2, g1, g2, g3, g4⟩ := it'
    exact ⟨o2, _, g3, g1, g2, g4, items_of_vals hi'⟩
  show wpAny _ _ (keyLt' (tuples' false) p.1 q.1) (fun x s' => s' = s ∧ x = SrtO.lexB (r (kf p.1).1, (kf p.1).2) (r (kf q.1).1, (kf q.1).2)) _ s
  generalize kf p.1 = k1 at *
  generalize kf q.1 = k2 at *
  rw [e, e']
  refine W.kat_lt ho hd ho' hd' ?_
  show W.KatLex prog w A false _ _ [(.ref b, .ref b'), (.int k1.2 t, .int k2.2 t')] 0 s
  refine W.kat_cons (wpAny_eqBool_tuple hu key1 key2 (W.kat_go (fun e1 => ?_) (fun e1 => ?_)))
  · have e1 := rk.eq.mp (of_decide_eq_true e1)
    refine W.kat_yes (W.kat_cons (SeqAt.EqAt.int_int _ _ _ _ prog w _ _ (W.kat_go (fun e2 => ?_) (fun e2 => ?_))))
    · have e2 : k1.2 = k2.2 := by simpa using e2
      refine W.kat_yes (W.kat_nil ⟨rfl, ?_⟩)
      unfold SrtO.lexB
      rw [if_pos e1]
      show decide (2 < 2) = decide (k1.2 < k2.2)
      rw [e2, decide_eq_false (Int.lt_irrefl _)]; rfl
    · refine W.kat_no (W.kat_one _ _ (lt_int ⟨rfl, ?_⟩))
      unfold SrtO.lexB
      rw [if_pos e1]
  · have e1 : r k1.1 ≠ r k2.1 := fun z => of_decide_eq_false e1 (rk.eq.mpr z)
    refine W.kat_no (W.kat_one _ _ (HT.lt_tupInts it it' (intsAre_of hi) (intsAre_of hi') hu ⟨rfl, ?_⟩))
    unfold SrtO.lexB
    rw [if_neg e1]
    exact rk.lt
theorem nest_sortable {prog : Program} {w : World} {A : Around} {s : Shared} {a : Addr} {vs : List Value} {kf : Value → List Int × Int} {r : List Int → Int} (hu : A.units < cLine) (h0 : 0 < vs.length) (hp : ∀ v ∈ vs, IsNest s.heap v (kf v).1 (kf v).2) (hr : ∀ v ∈ vs, ∀ u ∈ vs, Rkd r (kf v).1 (kf u).1)
    (ha : ∀ o, s.heap.get? a = some o → o.cls ≠ .type "tuple") : SrtO.SortableO prog w A s a vs (fun v u => SrtO.lexB (r (kf v).1, (kf v).2) (r (kf u).1, (kf u).2)) := by
  intro h' keep
  have hp' : ∀ v ∈ vs, IsNest h' v (kf v).1 (kf v).2 := fun v hm => (hp v hm).keeps fun b o e c => keep b o (fun z => by subst z; exact ha o e c) e
  obtain ⟨fs, h1, h2, h3⟩ := nest_firsts (h := h') fun v hm => ⟨_, _, hp' v hm⟩
  refine ⟨tuples' false, fun Q E hq => ?_, nest_cmp hu hp' hr⟩
  refine W.kat_kind (T := .type "tuple") h1 (by omega) (fun f hm => ?_) rfl hq
  obtain ⟨b, o, rfl, ho, hc⟩ := h3 f hm
  intro A2 Q2 E2 s2 kp hq2
  exact wpAny_typeOf_ref (kp _ _ ho) (by rw [hc]; exact hq2)
theorem sorted_nest {prog : Program} {w : World} {A : Around} {E : Value → Shared → Prop} {s : Shared} {l : Addr} {vs : List Value} {kf : Value → List Int × Int} {r : List Int → Int} {Q : Value → Shared → Prop} (hu : A.units + 2 < cLine) (hl : s.heap.IsList l vs.toArray) (hz : vs.length ≤ sizeLine)
    (hp : ∀ v ∈ vs, IsNest s.heap v (kf v).1 (kf v).2) (hr : ∀ v ∈ vs, ∀ u ∈ vs, Rkd r (kf v).1 (kf u).1)
    (h : ∀ (h' : Heap) (d : Addr) (out : List Value), SrtO.Srtd (fun v u => SrtO.lexB (r (kf v).1, (kf v).2) (r (kf u).1, (kf u).2)) out → out.Perm vs → (∀ b o, s.heap.get? b = some o → h'.get? b = some o) → s.heap.objs.size ≤ d → (∃ n, h'.get? d = some (seqObj "list" out.toArray n)) → Q (.ref d) { s with heap := h' }) :
    wpAny (model prog w) A (call (.builtin "sorted") [.ref l]) Q E s := by
  refine SrtO.sorted_ord (SrtO.swo_lex fun v => (r (kf v).1, (kf v).2)) hl hz (fun h2 h₁ a ha kk => ?_) fun out hs hb => ?_
  · refine nest_sortable hu (by omega) (fun v hm => (hp v hm).keeps fun b o e _ => (kk b o e).2) hr fun o e c => ?_
    have e' : some o = some (seqObj "list" vs.toArray 0) := e.symm.trans ha
    cases e'
    exact absurd (Value.type.inj c) (by decide)
  · exact h _ _ out hs hb.perm (fun b o e => sortedAll_old e) (Nat.le_succ _) (sortedAll_at _ _ _)
def rSortN (K : PySem.W.Frag) : List V → Hp → VK → Prop := fun vs H Q => ∃ (a : Addr) (xs : List V) (kf : V → List Int × Int) (r : List Int → Int), vs = [.ref a] ∧ SqL K H a xs ∧
  (∀ x ∈ xs, ∃ t u, x = .ref t ∧ H t = some (.tup [.ref u, .int (kf x).2]) ∧ H u = some (.tup ((kf x).1.map V.int))) ∧ (∀ x ∈ xs, ∀ y ∈ xs, Rkd r (kf x).1 (kf y).1) ∧
  ∀ (ys : List V) (p : Addr), ys.Perm xs → ys.Pairwise (fun x y => SrtO.lexB (r (kf y).1, (kf y).2) (r (kf x).1, (kf x).2) = false) → H p = none → Q (.ref p) (upd H p (.lst ys))
theorem cr_sortN {X : Cx} (hu : X.A.units + 2 < cLine) : CallR X (.builtin "sorted") (rSortN X.K) := by
  intro pins s σ H vs us Q I rv h
  obtain ⟨a, xs, kf, r, rfl, hs, hx, hr, q⟩ := h
  obtain ⟨its, rits, hl, hz⟩ := I.list hs
  obtain ⟨u, rfl, ru⟩ := vals1 rv
  obtain rfl : u = Value.ref a := ru
  obtain ⟨e1, e2⟩ := refs_back rits fun x m => let ⟨t, _, e, _⟩ := hx x m; ⟨t, e⟩
  have mem : ∀ v ∈ its, backV v ∈ xs := fun v hv => by rw [e1]; exact List.mem_map.mpr ⟨v, hv, rfl⟩
  refine sorted_nest (kf := fun v => kf (backV v)) (r := r) hu (PlainL.isList hl) (by rw [← rits.length]; exact hz) (fun v hv => ?_) (fun v hv u hu => hr _ (mem v hv) _ (mem u hu)) fun h' d out h1 h2 kp hd hn => ?_
  · obtain ⟨t, rfl⟩ := e2 v hv
    obtain ⟨t', u, e, ht, hut⟩ := hx _ (mem _ hv)
    have : t' = t := by cases e; rfl
    subst this
    obtain ⟨i1, r1, ⟨o, ho, hc, n, hd⟩, _⟩ := I.tuple (SqT.of (K := X.K) ht)
    obtain ⟨i2, r2, t2, _⟩ := I.tuple (SqT.of (K := X.K) hut)
    cases r1 with | cons ra rb => cases rb with | cons rc rd => cases rd with | nil =>
    obtain ⟨tk, rfl⟩ := rc
    obtain rfl := ra
    exact ⟨t', o, tk, n, u, i2.toArray, rfl, ho, hc, hd, t2, by simpa using r2⟩
  · have h3 : ∀ u ∈ out, ∃ a, u = Value.ref a := fun u hu => e2 u (h2.mem_iff.mp hu)
    obtain ⟨n, hn⟩ := hn
    refine ⟨.ref d, upd H d (.lst (out.map backV)), I.laid kp hd ⟨by rw [List.length_map, h2.length_eq, ← rits.length]; exact hz, out, n, vals_back h3, hn⟩, rfl, q _ d ?_ ?_ (I.hok.fresh hd)⟩
    · rw [e1]; exact h2.map _
    · rw [List.pairwise_map]; exact h1
section
variable {ω : Type} {C : Cn ω}
def nD (z : List Int × Int) : D := .tup [tI z.1, .int z.2]
def nestOf (H : Hp) : V → List Int × Int
  | .ref t => (match H t with
    | some (.tup [x, .int k]) => (tupOf H x, k)
    | _ => ([], 0))
  | _ => ([], 0)
def NestAt (H : Hp) (v : V) : Prop := ∃ t u, v = .ref t ∧ H t = some (.tup [.ref u, .int (nestOf H v).2]) ∧ H u = some (.tup ((nestOf H v).1.map V.int))
theorem nestOf_rep {H : Hp} {O : Addr → Prop} {z : List Int × Int} {v : V} (r : Rep H (nD z) O v) : nestOf H v = z ∧ NestAt H v := by
  obtain ⟨t, vs, rfl, h, q⟩ := r
  obtain ⟨x, _, rfl, q1, y, _, rfl, q2, rfl⟩ := q
  cases q2
  obtain ⟨e, u, rfl, hu⟩ := tupOf_rep q1
  have en : nestOf H (.ref t) = z := by
    show (match H t with | some (.tup [x, .int k]) => (tupOf H x, k) | _ => ([], 0)) = z
    rw [h]
    show (tupOf H (.ref u), z.2) = z
    rw [e]
  exact ⟨en, t, u, rfl, by rw [en]; exact h, by rw [en]; exact hu⟩
theorem nests_of {H : Hp} {O : Addr → Prop} : ∀ {zs : List (List Int × Int)} {us : List V}, RepAll H (zs.map nD) O us → us.map (nestOf H) = zs ∧ ∀ v ∈ us, NestAt H v
  | [], _, r => by cases r; exact ⟨rfl, fun v hv => by cases hv⟩
  | z :: zs, _, r => by
    obtain ⟨v, us, rfl, h, q⟩ := r
    obtain ⟨e1, e2⟩ := nests_of q
    obtain ⟨f1, f2⟩ := nestOf_rep h
    refine ⟨by rw [List.map_cons, f1, e1], fun u hu => ?_⟩
    rcases List.mem_cons.mp hu with rfl | hu
    · exact f2
    · exact e2 u hu
theorem nests_rep {H : Hp} {O : Addr → Prop} : ∀ {us : List V}, (∀ v ∈ us, NestAt H v) → RepAll H ((us.map (nestOf H)).map nD) O us
  | [], _ => rfl
  | v :: us, h => by
    obtain ⟨t, u, e1, e2, e3⟩ := h v (List.mem_cons_self ..)
    exact ⟨v, us, rfl, ⟨t, _, e1, e2, _, _, rfl, ⟨u, _, rfl, e3, RepAll.ofInts _⟩, _, _, rfl, rfl, rfl⟩, nests_rep fun w hw => h w (List.mem_cons_of_mem _ hw)⟩
def sortedNF : Fn := fun ps K => ∃ (m : Md) (zs : List (List Int × Int)) (r : List Int → Int), ps = [(m, .lst (zs.map nD))] ∧ (∀ x ∈ zs, ∀ y ∈ zs, Rkd r x.1 y.1) ∧ ∀ ks : List (List Int × Int), ks.Perm zs → ks.Pairwise (fun x y => SrtO.lexB (r y.1, y.2) (r x.1, x.2) = false) → K .F (.lst (ks.map nD))
theorem s_sortN {K0 : PySem.W.Frag} : SndC C (rSortN K0) sortedNF := by
  intro Z Γ w σ Hs H vs ps K Q R Bb r h hq
  obtain ⟨m, zs, rk, rfl, hr, h⟩ := h
  obtain ⟨v, rfl, rr⟩ := r.one
  obtain ⟨a, us, rfl, hl, q⟩ := RepM.lst (ds := zs.map nD) rr
  obtain ⟨e1, e2⟩ := nests_of q
  have mem : ∀ x ∈ us, nestOf H x ∈ zs := fun x hx => by rw [← e1]; exact List.mem_map.mpr ⟨x, hx, rfl⟩
  refine ⟨a, us, nestOf H, rk, rfl, .of hl, e2, fun x hx y hy => hr _ (mem x hx) _ (mem y hy), fun ys p hp hs hn => ?_⟩
  have e3 : ∀ v ∈ ys, NestAt H v := fun v hv => e2 v (hp.mem_iff.mp hv)
  refine hq _ _ _ _ (h (ys.map (nestOf H)) (by rw [← e1]; exact hp.map _) ?_) (same_new hn) (RepM.newL hn Bb rfl (nests_rep e3))
  rw [List.pairwise_map]; exact hs
end
theorem u2_of {k : Nat} {A : Around} (r : Room k A) : A.units + 2 < cLine := by have := units65 r; omega
end VS

namespace VS
open PySem PySem.Spec PyProof.Rows L2
/-! ### texts: join, split, signs, int(word) -/
section
variable {X : Cx} {ω : Type} {C : Cn ω} {te ta : EM C}
def joinM (te ta : EM C) : EM C := fun Γ w Q => te Γ w fun _ d w1 => ∃ a, d = .str a ∧ ta Γ w1 fun _ e w2 => ∃ ys : List Str, e = .lst (ys.map D.str) ∧ (ys.map fun y => y.length).sum + ys.length * a.length ≤ 1000000 ∧ Q .F (.str (Txt.join a ys)) w2
def rJoin (K : PySem.W.Frag) : V → List V → Hp → VK → Prop := fun x xs H Q => ∃ (a : Str) (p : Addr) (ys : List Str), x = V.str a ∧ xs = [V.ref p] ∧ (SqL K H p (ys.map V.str) ∨ SqT K H p (ys.map V.str)) ∧ (ys.map fun y => y.length).sum + ys.length * a.length ≤ 16777216 ∧ Q (.str (Txt.join a ys)) H
theorem vjoin {st : Expr} (hp : PE X st (tM1 (rJoin X.K) (lE C te) (lE C ta))) : VE X C st (joinM te ta) :=
  PEimp hp fun σ H Q ⟨Z, Γ, w, Q0, R, ht, hq⟩ => ⟨Z, Γ, w, _, R, ht, fun md d w1 v H1 h1 e1 wr1 r1 => by
    obtain ⟨a, rfl, h1⟩ := h1
    have ev : v = .str a := r1.any (R.bs.ext e1)
    subst ev
    refine ⟨⟨a, rfl⟩, Z, Γ, w1, _, R.step e1 wr1, h1, fun md2 e w2 u H2 h2 e2 wr2 r2 => ?_⟩
    obtain ⟨ys, rfl, hl, h2⟩ := h2
    obtain ⟨p, vs, rfl, hp, q⟩ := r2.lst
    cases RepAll.strs ys q
    exact ⟨a, p, ys, rfl, rfl, .inl (.of hp), by omega, hq _ _ _ _ _ h2 (e1.trans e2) wr2 (RepM.flat (d := .str _) rfl)⟩⟩
def splitM (te ta : EM C) : EM C := fun Γ w Q => te Γ w fun _ d w1 => ∃ a, d = .str a ∧ ta Γ w1 fun _ e w2 => ∃ b : Str, e = .str b ∧ (b.length == 0) = false ∧ a.length ≤ 1000000 ∧ Q .F (.lst ((Txt.split a b).map D.str)) w2
def rSplit : V → List V → Hp → VK → Prop := fun x xs H Q => ∃ a b : Str, x = V.str a ∧ xs = [V.str b] ∧ (b.length == 0) = false ∧ a.length + 2 ≤ sizeLine ∧ rNewStrs (Txt.split a b) H Q
theorem vsplit {st : Expr} (hp : PE X st (tM1 rSplit (lE C te) (lE C ta))) : VE X C st (splitM te ta) :=
  PEimp hp fun σ H Q ⟨Z, Γ, w, Q0, R, ht, hq⟩ => ⟨Z, Γ, w, _, R, ht, fun md d w1 v H1 h1 e1 wr1 r1 => by
    obtain ⟨a, rfl, h1⟩ := h1
    have ev : v = .str a := r1.any (R.bs.ext e1)
    subst ev
    refine ⟨⟨a, rfl⟩, Z, Γ, w1, _, R.step e1 wr1, h1, fun md2 e w2 u H2 h2 e2 wr2 r2 => ?_⟩
    obtain ⟨b, rfl, hb, hl, h2⟩ := h2
    have eu : u = .str b := r2.any ((R.step e1 wr1).bs.ext e2)
    subst eu
    refine ⟨a, b, rfl, rfl, hb, by rw [sizeLine_eq]; omega, fun p hp => ?_⟩
    have R2 := (R.step e1 wr1).step e2 wr2
    have g := same_new (o := HO.lst ((Txt.split a b).map V.str)) hp
    exact hq _ _ _ _ _ h2 ((e1.trans e2).trans (.same g)) (R2.wsame g) (RepM.newL hp (R.bs.ext (e1.trans e2)) (md := .F) rfl (RepAll.ofStrs _))⟩
def inSF (neg : Bool) : F2 := fun p q K => ∃ (c : Nat) (z : Str), p.2 = .str ⟨#[c]⟩ ∧ q.2 = .str z ∧ K .F (.bl (xor neg (decide (c ∈ z.cps.toList))))
theorem s_inS : Snd2 C (fun x y H Q => ∃ (c : Nat) (z : Str), x = V.str { cps := #[c] } ∧ y = V.str z ∧ Q (.bl (decide (c ∈ z.cps.toList))) H) (inSF false) := by
  intro Z Γ w σ Hs H x y p q K Q R B r1 r2 h hq
  obtain ⟨m1, d1⟩ := p
  obtain ⟨m2, d2⟩ := q
  obtain ⟨c, z, rfl, rfl, h⟩ := h
  have e1 : x = .str ⟨#[c]⟩ := r1.any B
  have e2 : y = .str z := r2.any B
  rw [Bool.false_xor] at h
  exact ⟨c, z, e1, e2, hq _ _ _ _ h (fun _ _ h => h) (RepM.flat (d := .bl _) rfl)⟩
theorem s_notInS : Snd2 C (fun x y H Q => ∃ (c : Nat) (z : Str), x = V.str { cps := #[c] } ∧ y = V.str z ∧ Q (.bl (!decide (c ∈ z.cps.toList))) H) (inSF true) := by
  intro Z Γ w σ Hs H x y p q K Q R B r1 r2 h hq
  obtain ⟨m1, d1⟩ := p
  obtain ⟨m2, d2⟩ := q
  obtain ⟨c, z, rfl, rfl, h⟩ := h
  have e1 : x = .str ⟨#[c]⟩ := r1.any B
  have e2 : y = .str z := r2.any B
  rw [Bool.true_xor] at h
  exact ⟨c, z, e1, e2, hq _ _ _ _ h (fun _ _ h => h) (RepM.flat (d := .bl _) rfl)⟩
def intSF : Fn := fun ps K => ∃ (m : Md) (a : Str) (n : Int), ps = [(m, .str a)] ∧ PySem.intText? a = some n ∧ a.length ≤ 640 ∧ K .F (.int n)
theorem s_intS : SndC C (fun xs H Q => ∃ (a : Str) (n : Int), xs = [V.str a] ∧ PySem.intText? a = some n ∧ a.length ≤ 640 ∧ Q (.int n) H) intSF := by
  intro Z Γ w σ Hs H vs ps K Q R B r h hq
  obtain ⟨m, a, n, rfl, h1, h2, h⟩ := h
  obtain ⟨v, rfl, rr⟩ := r.one
  have e1 : v = .str a := rr.any B
  subst e1
  exact ⟨a, n, rfl, h1, h2, hq _ _ _ _ h (fun _ _ h => h) (RepM.flat (d := .int _) rfl)⟩
/-- the signs of a text -/
def sgD (s : Str) : List D := s.cps.toList.map fun c => .str ⟨#[c]⟩
theorem walk_str {O A : Addr → Prop} {H : Hp} (s : Str) : WalkD O A H (Its s) (sgD s) := by
  have hl : (sgD s).length = s.cps.size := by simp [sgD]
  refine ⟨fun i H2 e hi' => by rw [hl] at hi'; exact hi', fun H2 e => by rw [hl]; exact Nat.le_refl _, fun i H2 x H3 e hi' y => ?_⟩
  obtain ⟨e1, c, e2, e3⟩ := y
  subst e1 e3
  exact ⟨fun _ _ h => h, .str ⟨#[c]⟩, by unfold sgD; rw [List.getElem?_map, Array.getElem?_toList, e2]; rfl, fun O' _ => rfl⟩
def iterS (te : EM C) : IM C := fun Γ w Q => te Γ w fun _ d w1 => ∃ s, d = .str s ∧ Q .F (sgD s) w1
theorem vi_str {tg e : Expr} (he : VE X C e te) : VI X C tg e (iterS te) := PIimp (pi_str he) fun σ H Q ⟨Z, Γ, w, Q0, R, ht, hq⟩ => ⟨Z, Γ, w, _, R, ht, fun md d w1 v H1 h1 e1 wr1 r1 => by
  obtain ⟨s, rfl, h1⟩ := h1
  have ev : v = .str s := r1.any (R.bs.ext e1)
  subst ev
  exact ⟨s, rfl, hq _ _ _ _ _ h1 e1 wr1 (walk_str s) fun _ => walk_str s⟩⟩
/-- y.pop(i), the value dropped -/
def dropG (t : GM C) : SM C := fun E Γ w => t Γ w fun _ Γ' w' => E.nx Γ' w'
theorem vdropG {st : Stmt} {t : GM C} (hp : PS X st (tDrop (lG C t))) : VS1 X C st (dropG t) := PSimp hp fun D σ H ⟨Z, Γ, w, E0, R, ht, o⟩ =>
  ⟨Z, Γ, w, _, R, ht, fun d Γ' w' v H1 h1 R1 F1 _ _ => o.nx _ _ _ _ h1 R1 F1⟩
end
end VS

namespace VS
open PySem PySem.Spec PyProof.Rows L2
/-! ### defs that may raise -/
/-- what is raised: a class of the program, by its name, and the fields that its __init__ sets -/
structure Xn where
  cls : Str
  fs : Option (List (Str × D))
abbrev PX := List D → (D → Prop) → (Xn → Prop) → Prop
/-- an exception as the heap has it, behind a heap -/
def XAt (mg : Str → Option Value) (H : Hp) (x : Xn) (cls : Value) (d : Option Addr) (H' : Hp) : Prop :=
  ∃ C, mg x.cls = some (.ref C) ∧ cls = .ref C ∧ Same H H' ∧ (match x.fs with
    | none => d = none
    | some fs => ∃ a vs, d = some a ∧ H a = none ∧ H' a = some (.xd vs) ∧ vs.map (·.1) = fs.map (·.1) ∧ RepAll H' (fs.map (·.2)) (fun _ => True) (vs.map (·.2)))
theorem XAt.back {mg : Str → Option Value} {H H1 H' : Hp} {x : Xn} {cls : Value} {d : Option Addr} (h : XAt mg H1 x cls d H') (g : Same H H1) : XAt mg H x cls d H' := by
  obtain ⟨C, h1, h2, h3, h4⟩ := h
  refine ⟨C, h1, h2, fun b o e => h3 b o (g b o e), ?_⟩
  cases e : x.fs with
  | none => rw [e] at h4; exact h4
  | some fs =>
    rw [e] at h4
    obtain ⟨a, vs, q1, q2, q3⟩ := h4
    refine ⟨a, vs, q1, ?_, q3⟩
    cases q : H a with
    | none => rfl
    | some o => rw [g a o q] at q2; cases q2
def spX (mg : Str → Option Value) (n : Nat) (frs : List Bool) (P : PX) : Sp := fun vs H Q E => ∃ (A : Addr → Prop) (ds : List D) (Kp : D → Prop) (Kx : Xn → Prop), (∀ b, A b → H b ≠ none) ∧ ds.length = n ∧ Args H A (fun _ => False) frs ds vs ∧ P ds Kp Kx ∧
  (∀ d v H', Kp d → Same H H' → Rep H' d A v → Q v H') ∧ ∀ x cls d H', Kx x → XAt mg H x cls d H' → E cls d H'
section
variable {P : Program} {w : World} {K : PySem.W.Frag} {mg : Str → Option Value} {base : Heap}
/-- THE RULE for a def that may raise -/
theorem okX {x : Str} {st : Stmt} {N ps : List Str} {k n : Nat} {frs : List Bool} {P0 : PX} (F : FnT K mg x st ps) (S : FnScope N ps (defScope st)) (hn : n = ps.length)
    (hb : ∀ (f : Addr) (cdv : Value) (A : Around) (outer : List Env) (s : Shared) (H : Hp) (E : XK) (A0 : Addr → Prop) (hA : ∀ b, A0 b → H b ≠ none) (Kx : Xn → Prop), (∀ x cls d H', Kx x → XAt mg H x cls d H' → E cls d H') → Room k (A.deeper (envOfC x (defScope st) s.heap.objs.size f cdv)) →
      ∃ t : SM (pureC A0 H hA), VSs (cxOf (L2.CX P w) P w K mg base N x (defScope st) f cdv A outer s H E) (pureC A0 H hA) (defBody st) t ∧
        ∀ (ds : List D) (Kp : D → Prop), ds.length = n → P0 ds Kp Kx → t ⟨fun _ _ => Kp .non, fun d _ => Kp d, fun _ _ => False, fun _ _ => False⟩ (startG N.length frs ds) ()) : FnC P w K mg base x (k + 1) ps (spX mg n frs P0) := by
  obtain ⟨f, fd, hm, F, hB⟩ := F
  refine ⟨f, fd, hm, F.kp, hB, F.okX S (fun vs H Q E h => ?_) (fun cdv A outer s H vs Q E hr h => ?_)⟩
  · obtain ⟨A, ds, Kp, Kx, _, hl, ha, _⟩ := h
    rw [ha.length, hl, hn]
  · obtain ⟨A0, ds, Kp, Kx, hA, hl, ha, hP, hK, hX⟩ := h
    obtain ⟨t, ht, hq⟩ := hb f cdv A outer s H E A0 hA Kx hX hr
    refine ⟨_, ht, fun _ => False, startG N.length frs ds, (), ⟨fun _ _ => Kp .non, fun d _ => Kp d, fun _ _ => False, fun _ _ => False⟩, ?_, hq ds _ hl hP, ⟨fun Γ' w' σ' H' h R f => ?_, fun _ _ _ _ h _ _ => h.elim, fun _ _ _ _ h _ _ => h.elim, fun d w' v H' h e _ r => hK d v H' h e.to_same r⟩⟩
    · refine start_rel (C := pureC A0 H hA) ?_ trivial ha
      have := S.pre
      have hp : (N.take ps.length).length = ps.length := by rw [this]
      rw [ha.length, hl, hn]
      rw [List.length_take] at hp
      omega
    · exact hK .non .non H' h (R.ext.to_same) rfl
end
/-- the way out of a def's own walk: what is raised reaches the wish E -/
def Out {ω : Type} (X : Cx) (C : Cn ω) (Kx : Xn → Prop) (E : XK) : Prop := Passes (L2.CX X.prog X.w) X E ∧ Takes X (fun cls d _ H => E cls d H) ∧ ∀ x cls d H1 H', Kx x → Ext C.W C.H0 H1 → XAt X.mg H1 x cls d H' → E cls d H'
def callX {ω : Type} {C : Cn ω} (n : Nat) (frs : List Bool) (P0 : PX) (Kx : Xn → Prop) (ts : AM C) : EM C := fun Γ w Q => ts Γ w fun ps w1 => ps.length = n ∧ frOk frs ps = true ∧ P0 (ps.map (·.2)) (fun d => Q .F d w1) Kx
section
variable {X : Cx} {ω : Type} {C : Cn ω} {Kx : Xn → Prop} {E0 : XK}
theorem out_of {P : Program} {w : World} {K : PySem.W.Frag} {mg : Str → Option Value} {base : Heap} {N : List Str} {q : Str} {sc : Scope} {f : Addr} {cdv : Value} {A : Around} {outer : List Env} {s : Shared} {H : Hp} {E : XK} {A0 : Addr → Prop} {hA : ∀ b, A0 b → H b ≠ none} {Kx : Xn → Prop}
    (h : ∀ x cls d H', Kx x → XAt mg H x cls d H' → E cls d H') : Out (cxOf (L2.CX P w) P w K mg base N q sc f cdv A outer s H E) (pureC A0 H hA) Kx E :=
  ⟨passes_call (takes_of rfl rfl rfl rfl) fun cls d σ H h => h, takes_of rfl rfl rfl rfl, fun x cls d H1 H' hk e hx => h x cls d H' hk (hx.back e.to_same)⟩
theorem vcallX {x : Str} {k : Nat} {ps : List Str} {n : Nat} {frs : List Bool} {P0 : PX} {e : Expr} {es : List Expr} {ts : AM C} {p pos : Pos} (F : FnC X.prog X.w X.K X.mg X.base x k ps (spX X.mg n frs P0)) (hr : Room k X.A) (hp : Out X C Kx E0) (ha : VA X C (e :: es) ts) (hg : Gl X x := by rfl) (hdb : (x == ("__debug__" : Str)) = false := by decide)
    (he : starEach (e :: es) X.env = (false, eval e X.env) :: starEach es X.env := by rfl) (hpl : (backTo pos (starEach es X.env)).any (·.1) = false := by rfl) : VE X C (.Call (.Name x p) (e :: es) [] pos) (callX n frs P0 Kx ts) := by
  obtain ⟨f, fd, hm, hk, hB, F⟩ := F
  refine PEimp (pe_call (dvs := []) F hr hg hm hk hB .nil hp.1 ha hdb he hpl) fun σ H Q ⟨Z, Γ, w, Q0, R, ht, hq⟩ => ⟨Z, Γ, w, _, R, ht, fun ps w1 vs H1 h1 e1 wr1 r1 => ?_⟩
  obtain ⟨hl, hf, h1⟩ := h1
  have B := R.bs.ext e1
  refine ⟨fun b => H b ≠ none, ps.map (·.2), fun d => Q0 .F d w1, Kx, fun b h => e1.dom b h, by simpa using hl, ?_, h1, fun d v H' hd g r => hq .F d w1 v H' hd (e1.trans (.same g)) ((R.step e1 wr1).wsame g) r, fun x cls d H' hk hx => hp.2.2 x cls d H1 H' hk (R.ext.trans e1) hx⟩
  rw [List.append_nil]
  exact args_ok B (fun _ z => z.elim) r1 hf
/-- raise X('..'), X without an __init__ -/
def rsM (cls : Str) (Kx : Xn → Prop) : SM C := fun _ _ _ => Kx ⟨cls, none⟩
theorem vraise0 {e : Expr} {pos : Pos} {cls : Str} {Cc : Addr} (hc : X.calm = true) (hp : Out X C Kx E0) (hm : X.mg cls = some (.ref Cc)) (h : PMk X e fun _ H Q => Q (.ref Cc) none H) : VS1 X C (.Raise (some e) none pos) (rsM cls Kx) :=
  PSimp (ps_raise hc hp.2.1 h) fun D σ H ⟨Z, Γ, w, E1, R, ht, o⟩ => hp.2.2 _ _ _ H H ht R.ext ⟨Cc, hm, rfl, fun _ _ h => h, rfl⟩
end
/-! ### an exception's own __init__ -/
/-- __init__ of a class whose fields are set one by one (names: the last one set first) -/
def spEI (K : PySem.W.Frag) (Cc : Addr) (n : Nat) (names : List Str) : Sp := fun vs H Q _ => ∃ (a : Addr) (ws : List V), vs = .ref a :: ws ∧ ws.length = n ∧ H a = some (exo a Cc none) ∧
  ∀ (d : Addr) (H' : Hp), H d = none → d ≠ a → H' a = some (exo a Cc (some d)) → H' d = some (exd d (names.zip ws.reverse)) → (∀ b, b ≠ a → b ≠ d → H' b = H b) → Q .non H'
def MkE (P : Program) (w : World) (K : PySem.W.Frag) (mg : Str → Option Value) (base : Heap) (x : Str) (k : Nat) (n : Nat) (names : List Str) : Prop :=
  ∃ (C fI : Addr) (fd : FuncData) (ps : List Str), mg x = some (.ref C) ∧ OexC K C ∧ PySem.W.findIn K (.ref C) "__init__" = some (some (.ref fI)) ∧ PySem.W.typeIn K (.ref fI) = some (.type "function") ∧ Binds K fd ps [] ∧ FnOk P w K mg base (L2.CX P w) k fI fd ps (spEI K C n names)
section
variable {X : Cx} {ω : Type} {C : Cn ω} {Kx : Xn → Prop} {E0 : XK}
theorem flats_of : ∀ {ps : List (Md × D)}, (∀ p ∈ ps, p.2.flat = true) → D.flats (ps.map (·.2)) = true
  | [], _ => rfl
  | p :: ps, h => by
    show (p.2.flat && D.flats (ps.map (·.2))) = true
    rw [h p (List.mem_cons_self ..), flats_of fun q hq => h q (List.mem_cons_of_mem _ hq)]; rfl
/-- raise X(a, ..), X with its own __init__ -/
def rsXM (cls : Str) (n : Nat) (names : List Str) (Kx : Xn → Prop) (ts : AM C) : SM C := fun _ Γ w => ts Γ w fun ps _ => ps.length = n ∧ (∀ p ∈ ps, p.2.flat = true) ∧ Kx ⟨cls, some (names.zip (ps.map (·.2)).reverse)⟩
theorem vraiseX {cls : Str} {k n : Nat} {names : List Str} {e : Expr} {es : List Expr} {ts : AM C} {p p2 pos : Pos} (G : MkE X.prog X.w X.K X.mg X.base cls k n names) (hc : X.calm = true) (hr : Room (k + 1) X.A) (hp : Out X C Kx E0) (hx : Passes (L2.CX X.prog X.w) X fun _ _ _ => False) (ha : VA X C (e :: es) ts) (hn : n ≤ 1000) (hl : names.length = n) (hg : Gl X cls := by rfl) (hdb : (cls == ("__debug__" : Str)) = false := by decide)
    (he : starEach (e :: es) X.env = (false, eval e X.env) :: starEach es X.env := by rfl) (hpl : (backTo p2 (starEach es X.env)).any (·.1) = false := by rfl) : VS1 X C (.Raise (some (.Call (.Name cls p) (e :: es) [] p2)) none pos) (rsXM cls n names Kx ts) := by
  obtain ⟨Cc, fI, fd, ps, hm, T, iC, tI, hB, F⟩ := G
  refine PSimp (ps_raise hc hp.2.1 (pmk_oex (dvs := []) T iC tI F hr hB .nil hx hg hm ha hdb he hpl)) fun Dn σ H ⟨Z, Γ, w, E1, R, ht, o⟩ => ⟨Z, Γ, w, _, R, ht, fun ps w1 vs H1 h1 e1 wr1 r1 => ?_⟩
  obtain ⟨hl1, hf, h1⟩ := h1
  have lv : vs.length = n := by rw [r1.length]; exact hl1
  refine ⟨by omega, fun a ha => ⟨a, vs, by rw [List.append_nil], lv, upd_same, fun d H' hd hda hHa hHd hrest => ⟨rfl, d, names.zip vs.reverse, hHa, hHd, ?_, ?_⟩⟩⟩
  · rw [upd_ne hda] at hd; exact hd
  · have hd1 : H1 d = none := by rw [upd_ne hda] at hd; exact hd
    have sm : Same H1 (upd (del H' a) d (.xd (names.zip vs.reverse))) := fun b o e => by
      have hb1 : b ≠ a := fun z => by rw [z, ha] at e; cases e
      have hb2 : b ≠ d := fun z => by rw [z, hd1] at e; cases e
      rw [upd_ne hb2]
      unfold del
      rw [if_neg hb1, hrest b hb1 hb2, upd_ne hb1]; exact e
    refine hp.2.2 _ _ _ H1 _ h1 (R.ext.trans e1) ⟨Cc, hm, rfl, sm, d, names.zip vs.reverse, rfl, hd1, upd_same, ?_, ?_⟩
    · have q1 : (names.zip vs.reverse).map (·.1) = names := List.map_fst_zip (by rw [List.length_reverse]; omega)
      have q2 : (names.zip (ps.map (·.2)).reverse).map (·.1) = names := List.map_fst_zip (by rw [List.length_reverse, List.length_map]; omega)
      rw [q1, q2]
    · have q1 : (names.zip vs.reverse).map (·.2) = vs.reverse := List.map_snd_zip (by rw [List.length_reverse]; omega)
      have q2 : (names.zip (ps.map (·.2)).reverse).map (·.2) = (ps.map (·.2)).reverse := List.map_snd_zip (by rw [List.length_reverse, List.length_map]; omega)
      rw [q1, q2]
      refine RepAll.reverse ?_
      have q := r1.any (R.bs.ext e1)
      have hfl : D.flats (ps.map (·.2)) = true := flats_of hf
      exact RepAll.move _ (RepAll.flat (O' := fun _ => True) _ hfl q) (fun _ _ z => z) (fun _ _ _ n => absurd trivial n) fun b vs h => sm b _ h
end

theorem vsnever {X : Cx} {ω : Type} {C : Cn ω} : ∀ {l : List Stmt}, VSs X C l (nvM : SM C)
  | [] => PSsimp pss_nil fun D σ H ⟨Z, Γ, w, E0, R, ht, o⟩ => ht.elim
  | _ :: _ => PSsimp (pss_cons (vnever (C := C)) (vsnever (X := X) (C := C))) fun D σ H ⟨Z, Γ, w, E0, R, ht, o⟩ => ht.elim
end VS

namespace VS
open PySem PySem.Spec PyProof.Rows L2
/-! ### a caught exception -/
/-- the classes of this program -/
def exSub (x c : Str) : Bool := x == c || c == "FallError" || c == "ValueError"
/-- what is told of an exception class, and of the classes L that it is asked for -/
def ExK (K : PySem.W.Frag) (mg : Str → Option Value) (L : List Str) (x : Str) : Prop := ∃ D, mg x = some (.ref D) ∧ ExcC K D ∧ (∀ c ∈ L, ∃ Cc, mg c = some (.ref Cc) ∧ PySem.W.kitOne K (.ref D) (.ref Cc) = some (exSub x c)) ∧ PySem.W.kitOne K (.ref D) (.type "ValueError") = some true
def XIn (mg : Str → Option Value) (x : Xn) (cls : Value) (d : Option Addr) (H : Hp) : Prop :=
  ∃ D, mg x.cls = some (.ref D) ∧ cls = .ref D ∧ (match x.fs with
    | none => d = none
    | some fs => ∃ a vs, d = some a ∧ H a = some (.xd vs) ∧ vs.map (·.1) = fs.map (·.1) ∧ RepAll H (fs.map (·.2)) (fun _ => True) (vs.map (·.2)))
theorem XAt.xin {mg : Str → Option Value} {H H' : Hp} {x : Xn} {cls : Value} {d : Option Addr} (h : XAt mg H x cls d H') : XIn mg x cls d H' := by
  obtain ⟨C, h1, h2, h3, h4⟩ := h
  refine ⟨C, h1, h2, ?_⟩
  cases e : x.fs with
  | none => rw [e] at h4; exact h4
  | some fs =>
    rw [e] at h4
    obtain ⟨a, vs, q1, q2, q3, q4, q5⟩ := h4
    exact ⟨a, vs, q1, q3, q4, q5⟩
/-- it has no dict, or its dict is known -/
def DOk (d : Option Addr) (H : Hp) : Prop := d = none ∨ ∃ dd vs, d = some dd ∧ H dd = some (.xd vs)
theorem XIn.dok {mg : Str → Option Value} {H : Hp} {x : Xn} {cls : Value} {d : Option Addr} (h : XIn mg x cls d H) : DOk d H := by
  obtain ⟨C, h1, h2, h4⟩ := h
  cases e : x.fs with
  | none => rw [e] at h4; exact .inl h4
  | some fs =>
    rw [e] at h4
    obtain ⟨a, vs, q1, q3, _⟩ := h4
    exact .inr ⟨a, vs, q1, q3⟩
def rXI (K : PySem.W.Frag) (a : Addr) (cls : Value) (d : Option Addr) : List V → Hp → VK → Prop := fun xs H Q => ∃ (D : Addr) (c : V) (cv : Value) (b : Bool), cls = .ref D ∧ DOk d H ∧ ExcC K D ∧ xs = [.ref a, c] ∧ ClsV c cv ∧ PySem.W.kitOne K (.ref D) cv = some b ∧ Q (.bl b) H
def rXT (K : PySem.W.Frag) (a : Addr) (cls : Value) (d : Option Addr) : List V → Hp → VK → Prop := fun xs H Q => ∃ (D tp : Addr) (cs : List V) (us : List Value) (b : Bool), cls = .ref D ∧ DOk d H ∧ ExcC K D ∧ xs = [.ref a, .ref tp] ∧ H tp = some (.tup cs) ∧ Paired ClsV cs us ∧ PySem.W.kitAny K (.ref D) us = some b ∧ Q (.bl b) H
section
variable {X : Cx} {a D : Addr} {oe : Obj} {cls : Value} {d : Option Addr} {pn : List (Addr × Obj)}
theorem xi_at {pins : List (Addr × Obj)} {σ : L2.St} {H : Hp} {s : Shared} (I : Inv (X.suite a ((a, oe) :: pn)) pins σ H s) (hz : Zc (.ref D) d oe) (hf : ∃ vs, oe.data = .fields vs) (hd : DOk d H) : ∃ od, PySem.W.InstAt s.heap a oe D od := by
  obtain ⟨hget, _⟩ := I.pin (a, oe) (List.mem_append_left _ List.mem_cons_self)
  obtain ⟨vs, hv⟩ := hf
  rcases hd with rfl | ⟨dd, ws, rfl, ea⟩
  · exact ⟨none, hget, hz.1, by unfold PySem.W.notCls; rw [hv] <;> rfl, by rw [hz.2]; trivial⟩
  · have hx : ObjOk X.prog X.w H s.heap dd (.xd ws) := I.hok dd _ ea
    obtain ⟨mA, hns, hr⟩ := hx
    obtain ⟨od, ho, hl⟩ := lookIn_ns hns
    exact ⟨some od, hget, hz.1, by unfold PySem.W.notCls; rw [hv] <;> rfl, by rw [hz.2]; exact ho⟩
theorem excC_kit {K : PySem.W.Frag} {ox : Obj} {od : Option Obj} (hC : ExcC K D) : PySem.W.KitX K (.ref a) (.ref D) (fun h => PySem.W.InstAt h a ox D od) := by
  obtain ⟨cdD, hcD, _⟩ := PySem.W.any_some hC.hd
  exact PySem.W.kitx_exc (by rw [hcD]; rfl) hC.hg hC.hk hC.hs hC.ha hC.hn hC.ht hC.hm
theorem call_XI (hz : Zc cls d oe) (hf : ∃ vs, oe.data = .fields vs) : CallR (X.suite a ((a, oe) :: pn)) (.builtin "isinstance") (rXI X.K a cls d) := by
  intro pins s σ H xs us Q I r h
  obtain ⟨D, c, cv, b, rfl, hd, hC, rfl, hc, hk, q⟩ := h
  obtain ⟨od, J⟩ := xi_at I hz hf hd
  cases r with
  | cons rx rr =>
    cases rr with
    | cons rt rr =>
      cases rr
      cases rx
      have ec := hc.eq rt
      subst ec
      exact PySem.W.kia_one (excC_kit hC) I.kIn J hk (fun z => nomatch z) fun tk => ⟨.bl b, H, I.kept (t' := tk) fun _ _ z => z, rfl, q⟩
theorem call_XT (hz : Zc cls d oe) (hf : ∃ vs, oe.data = .fields vs) : CallR (X.suite a ((a, oe) :: pn)) (.builtin "isinstance") (rXT X.K a cls d) := by
  intro pins s σ H xs us Q I r h
  obtain ⟨D, tp, cs, ws, b, rfl, hd, hC, rfl, ht, hcs, hk, q⟩ := h
  obtain ⟨od2, J⟩ := xi_at I hz hf hd
  obtain ⟨u1, us1, rfl, r1, r2⟩ : ∃ u us', us = u :: us' ∧ RelV (.ref a) u ∧ Vals [.ref tp] us' := by cases r with | cons h t => exact ⟨_, _, rfl, h, t⟩
  obtain ⟨u2, rfl, r3⟩ := vals1 r2
  obtain rfl : u1 = Value.ref a := r1
  obtain rfl : u2 = Value.ref tp := r3
  obtain ⟨its, rv, ⟨o, ho, hc2, n, hd2⟩, _⟩ := I.tuple (SqT.of (K := X.K) ht)
  have e3 := ClsV.all hcs rv
  subst e3
  obtain ⟨oc, od, dt, sl⟩ := o
  simp only at hc2 hd2
  subst hc2 hd2
  exact PySem.W.kia_tup (excC_kit hC) I.kIn J ho hk (by intro z; cases z) fun tk => ⟨.bl b, H, I.tok tk, rfl, q⟩
end
abbrev nC (H : Hp) : Cn Unit := pureC (fun _ => False) H (fun _ h => h.elim)
section
variable {X : Cx} {a : Addr} {oe : Obj} {cls : Value} {d : Option Addr} {pn : List (Addr × Obj)} {H0 : Hp} {x : Xn} {L : List Str}
/-- isinstance(e, C), e the caught exception in slot i -/
def exisM {ω : Type} {C : Cn ω} (x : Xn) (a : Addr) (i : Nat) (c : Str) : EM C := fun Γ w Q => Γ[i]? = some (.val true (.ref a)) ∧ Q .F (.bl (exSub x.cls c)) w
def exisTM {ω : Type} {C : Cn ω} (x : Xn) (a : Addr) (i : Nat) (cs : List Str) : EM C := fun Γ w Q => Γ[i]? = some (.val true (.ref a)) ∧ Q .F (.bl (cs.any (exSub x.cls ·))) w
theorem DOk.ext {H H' : Hp} (h : DOk d H) (e : Ext (fun _ => False) H H') : DOk d H' := by
  rcases h with h | ⟨dd, vs, e1, e2⟩
  · exact .inl h
  · exact .inr ⟨dd, vs, e1, e.keep _ _ e2 fun z => z⟩
theorem slot_ref {C : Cn Unit} {Z : Addr → Prop} {Γ : List Sl} {σ : L2.St} {H : Hp} {i : Nat} {fr : Bool} (R : Rel C Z Γ () σ H) (h : Γ[i]? = some (.val fr (.ref a))) : σ[i]? = some (some (.ref a)) := by
  obtain ⟨v, h1, h2⟩ := R.val i fr _ h
  have h2 : v = .ref a := h2
  rw [h1, h2]
theorem vexis {c : Str} {i : Nat} {e : Expr} {p p2 pos : Pos} (G : ExK X.K X.mg L x.cls) (hc : c ∈ L) (hz : Zc cls d oe) (hf : ∃ vs, oe.data = .fields vs) (hx : XIn X.mg x cls d H0) (hB : X.mg "isinstance" = none) (he : PE (X.suite a ((a, oe) :: pn)) e (tVar i))
    (hg : Gl (X.suite a ((a, oe) :: pn)) "isinstance" := by rfl) (hg2 : Gl (X.suite a ((a, oe) :: pn)) c := by rfl) (hdb : (c == ("__debug__" : Str)) = false := by decide) (hv : bootBuiltins "isinstance" = some (.builtin "isinstance") := by decide +kernel)
    (h1 : starEach [e, .Name c p2] X.env = (false, eval e X.env) :: starEach [.Name c p2] X.env := by rfl) (h3 : (backTo pos (starEach [.Name c p2] X.env)).any (·.1) = false := by rfl) :
    VE (X.suite a ((a, oe) :: pn)) (nC H0) (.Call (.Name "isinstance" p) [e, .Name c p2] [] pos) (exisM x a i c) := by
  obtain ⟨D, hD, hE, hL, _⟩ := G
  obtain ⟨Cc, hm, hk⟩ := hL c hc
  have hcl : cls = .ref D := by obtain ⟨D', h1, h2, _⟩ := hx; rw [hD] at h1; cases h1; exact h2
  refine PEimp (pe_callB (call_XI hz hf) hg hB hv (pa_cons he (pa_cons (pe_glob hg2 hm (v := .ref Cc) rfl hdb) pa_nil (by rfl)) h1) (by decide) (by decide) h1 h3) fun σ H Q ⟨Z, Γ, w, Q0, R, ⟨hs, ht⟩, hq⟩ => ?_
  exact ⟨.ref a, slot_ref R hs, D, .ref Cc, .ref Cc, _, hcl, hx.dok.ext R.ext, hE, rfl, .own Cc, hk, hq _ _ _ _ _ ht (.refl _ _) R.wr (RepM.flat (d := .bl _) rfl)⟩
theorem vexisV {i : Nat} {e : Expr} {p p2 pos : Pos} (G : ExK X.K X.mg L x.cls) (hz : Zc cls d oe) (hf : ∃ vs, oe.data = .fields vs) (hx : XIn X.mg x cls d H0) (hB : X.mg "isinstance" = none) (hV : X.mg "ValueError" = none) (he : PE (X.suite a ((a, oe) :: pn)) e (tVar i))
    (hg : Gl (X.suite a ((a, oe) :: pn)) "isinstance" := by rfl) (hg2 : Gl (X.suite a ((a, oe) :: pn)) "ValueError" := by rfl) (hv : bootBuiltins "isinstance" = some (.builtin "isinstance") := by decide +kernel) (hv2 : bootBuiltins "ValueError" = some (.type "ValueError") := by decide +kernel)
    (h1 : starEach [e, .Name "ValueError" p2] X.env = (false, eval e X.env) :: starEach [.Name "ValueError" p2] X.env := by rfl) (h3 : (backTo pos (starEach [.Name "ValueError" p2] X.env)).any (·.1) = false := by rfl) :
    VE (X.suite a ((a, oe) :: pn)) (nC H0) (.Call (.Name "isinstance" p) [e, .Name "ValueError" p2] [] pos) (exisM x a i "ValueError") := by
  obtain ⟨D, hD, hE, hL, hk⟩ := G
  have hcl : cls = .ref D := by obtain ⟨D', h1, h2, _⟩ := hx; rw [hD] at h1; cases h1; exact h2
  refine PEimp (pe_callB (call_XI hz hf) hg hB hv (pa_cons he (pa_cons (pe_bltn (v := .ty "ValueError") hg2 hV hv2 rfl (by decide) (by decide)) pa_nil (by rfl)) h1) (by decide) (by decide) h1 h3) fun σ H Q ⟨Z, Γ, w, Q0, R, ⟨hs, ht⟩, hq⟩ => ?_
  have e : exSub x.cls "ValueError" = true := by unfold exSub; simp
  rw [e] at ht
  exact ⟨.ref a, slot_ref R hs, D, .ty "ValueError", .type "ValueError", true, hcl, hx.dok.ext R.ext, hE, rfl, .ty _, hk, hq _ _ _ _ _ ht (.refl _ _) R.wr (RepM.flat (d := .bl _) rfl)⟩
theorem kitAny_of {K : PySem.W.Frag} {t : Value} {f : Str → Bool} {ad : Str → Value} : ∀ {cs : List Str}, (∀ c ∈ cs, PySem.W.kitOne K t (ad c) = some (f c)) → PySem.W.kitAny K t (cs.map ad) = some (cs.any f)
  | [], _ => rfl
  | c :: cs, h => by
    have h1 := h c (List.mem_cons_self ..)
    have h2 := kitAny_of (cs := cs) fun b hb => h b (List.mem_cons_of_mem _ hb)
    show (match PySem.W.kitOne K t (ad c) with
    | some true => some true
    | some false => PySem.W.kitAny K t (cs.map ad)
    | none => none) = _
    rw [h1]
    cases q : f c with
    | true => simp [q]
    | false => simp [q, h2]
theorem paired_own {ad : Str → Addr} : ∀ cs : List Str, Paired ClsV (cs.map fun c => V.ref (ad c)) (cs.map fun c => Value.ref (ad c))
  | [] => .nil
  | c :: cs => .cons (.own _) (paired_own cs)
/-- the classes of a tuple: names -/
inductive Nms (X : Cx) : List Str → List Expr → Prop
  | nil : Nms X [] []
  | cons {c : Str} {p : Pos} {cs : List Str} {es : List Expr} (hg : Gl X c) (hdb : (c == ("__debug__" : Str)) = false) (r : Nms X cs es) : Nms X (c :: cs) (.Name c p :: es)
theorem Nms.pa {X : Cx} {ad : Str → Addr} {cs : List Str} {es : List Expr} (n : Nms X cs es) (h : ∀ c ∈ cs, X.mg c = some (.ref (ad c))) : PA X es fun σ H Q => Q (cs.map fun c => V.ref (ad c)) H := by
  induction n with
  | nil => exact pa_nil
  | cons hg hdb r ih => exact PAimp (pa_cons (pe_glob hg (h _ (List.mem_cons_self ..)) (v := .ref (ad _)) rfl hdb) (ih fun c hc => h c (List.mem_cons_of_mem _ hc)) (by rfl)) fun σ H Q h => h
theorem vexisT {cs : List Str} {es : List Expr} {i : Nat} {e : Expr} {p p2 pos : Pos} {x1} (G : ExK X.K X.mg L x.cls) (hc : ∀ c ∈ cs, c ∈ L) (hz : Zc cls d oe) (hf : ∃ vs, oe.data = .fields vs) (hx : XIn X.mg x cls d H0) (hB : X.mg "isinstance" = none) (he : PE (X.suite a ((a, oe) :: pn)) e (tVar i))
    (hn : Nms (X.suite a ((a, oe) :: pn)) cs es) (hl : cs.length ≤ 1000) (hg : Gl (X.suite a ((a, oe) :: pn)) "isinstance" := by rfl) (hv : bootBuiltins "isinstance" = some (.builtin "isinstance") := by decide +kernel)
    (h1 : starEach [e, .Tuple es x1 p2] X.env = (false, eval e X.env) :: starEach [.Tuple es x1 p2] X.env := by rfl) (h2 : starEach [.Tuple es x1 p2] X.env = (false, eval (.Tuple es x1 p2) X.env) :: starEach [] X.env := by rfl) (h3 : (backTo pos (starEach [.Tuple es x1 p2] X.env)).any (·.1) = false := by rfl) :
    VE (X.suite a ((a, oe) :: pn)) (nC H0) (.Call (.Name "isinstance" p) [e, .Tuple es x1 p2] [] pos) (exisTM x a i cs) := by
  obtain ⟨D, hD, hE, hL, _⟩ := G
  have hcl : cls = .ref D := by obtain ⟨D', h1, h2, _⟩ := hx; rw [hD] at h1; cases h1; exact h2
  have hm : ∀ c ∈ cs, X.mg c = some (.ref (adr X.mg c)) := fun c h => by obtain ⟨Cc, h1, _⟩ := hL c (hc c h); rw [adr_of h1]; exact h1
  have hk : ∀ c ∈ cs, PySem.W.kitOne X.K (.ref D) (.ref (adr X.mg c)) = some (exSub x.cls c) := fun c h => by obtain ⟨Cc, h1, h2⟩ := hL c (hc c h); rw [adr_of h1]; exact h2
  refine PEimp (pe_callB (call_XT hz hf) hg hB hv (pa_cons he (pa_cons (pe_tup (Nms.pa hn hm)) pa_nil h2) h1) (by decide) (by decide) h1 h3) fun σ H Q ⟨Z, Γ, w, Q0, R, ⟨hs, ht⟩, hq⟩ => ?_
  refine ⟨.ref a, slot_ref R hs, by rw [List.length_map]; exact le1000 hl, fun tp htp => ?_⟩
  have sm := same_new (o := .tup (cs.map fun c => V.ref (adr X.mg c))) htp
  exact ⟨D, tp, _, _, _, hcl, (hx.dok.ext R.ext).ext (.same sm), hE, rfl, upd_same, paired_own cs, kitAny_of (ad := fun c => .ref (adr X.mg c)) hk, hq _ _ _ _ _ ht (.same sm) (R.wsame sm) (RepM.flat (d := .bl _) rfl)⟩
/-- e.f, e the caught exception in slot i -/
def exfM {ω : Type} {C : Cn ω} (x : Xn) (a : Addr) (i : Nat) (f : Str) : EM C := fun Γ w Q => Γ[i]? = some (.val true (.ref a)) ∧ ∃ fs d, x.fs = some fs ∧ fs.lookup f = some d ∧ d.flat = true ∧ Q .F d w
theorem lookup_rep {H : Hp} {f : Str} {d : D} {O : Addr → Prop} : ∀ {fs : List (Str × D)} {vs : List (Str × V)}, vs.map (·.1) = fs.map (·.1) → RepAll H (fs.map (·.2)) O (vs.map (·.2)) → fs.lookup f = some d → ∃ v, vs.lookup f = some v ∧ Rep H d O v
  | [], _, _, _, h => by cases h
  | (g, d') :: fs, [], h, _, _ => by cases h
  | (g, d') :: fs, (g', v) :: vs, h, r, hl => by
    obtain ⟨v', r', e, h1, h2⟩ := r
    have e1 : g' = g := (List.cons.inj h).1
    have e2 : vs.map (·.1) = fs.map (·.1) := (List.cons.inj h).2
    have e3 : v = v' := (List.cons.inj e).1
    have e4 : vs.map (·.2) = r' := (List.cons.inj e).2
    subst e1 e3 e4
    rw [List.lookup_cons] at hl ⊢
    cases q : (f == g') with
    | true => rw [q] at hl; cases hl; exact ⟨v, rfl, h1⟩
    | false => rw [q] at hl; exact lookup_rep e2 h2 hl
theorem vexf {i : Nat} {f : Str} {e : Expr} {pos : Pos} {D : Addr} (hD : X.mg x.cls = some (.ref D)) (T : XfC X.K D) (hno : PySem.W.findIn X.K (.ref D) f = some none) (hz : Zc cls d oe) (hf : ∃ vs, oe.data = .fields vs) (hx : XIn X.mg x cls d H0) (he : PE (X.suite a ((a, oe) :: pn)) e (tVar i))
    (hb : attributeBase e f X.env (eval e X.env) = eval e X.env := by rfl) : VE (X.suite a ((a, oe) :: pn)) (nC H0) (.Attribute e f pos) (exfM x a i f) := by
  refine PEimp (pe_xf T hno hz hf he hb) fun σ H Q ⟨Z, Γ, w, Q0, R, ⟨hs, fs, dd, hfs, hl, hfl, ht⟩, hq⟩ => ?_
  obtain ⟨D', h1, h2, h3⟩ := hx
  rw [hD] at h1; cases h1
  rw [hfs] at h3
  obtain ⟨da, vs, e1, e2, e3, e4⟩ := h3
  obtain ⟨v, e5, e6⟩ := lookup_rep e3 e4 hl
  exact ⟨.ref a, slot_ref R hs, rfl, h2, da, vs, v, e1, R.ext.keep _ _ e2 (fun z => z), e5, hq _ _ _ _ _ ht (.refl _ _) R.wr (RepM.flat (Rep.flat _ hfl (Rep.move _ (Rep.flat (O' := fun _ => False) _ hfl e6) (fun _ _ z => z) (fun b o hb n => R.ext.keep b o hb fun z => z) R.ext.tup)))⟩
end
/-! ### try: f(..) except C as e: suite -/
def nOwn (Γ : List Sl) : Bool := Γ.all fun s => match s with | .own _ => false | _ => true
theorem nOwn_get {Γ : List Sl} (h : nOwn Γ = true) {i : Nat} {d : D} : Γ[i]? ≠ some (.own d) := fun e => by
  have := List.all_eq_true.mp h _ (List.mem_of_getElem? e)
  cases this
theorem Rel.restart {A0 : Addr → Prop} {H0 : Hp} {hA : ∀ b, A0 b → H0 b ≠ none} {Z : Addr → Prop} {Γ : List Sl} {σ : L2.St} {H : Hp} (R : Rel (pureC A0 H0 hA) Z Γ () σ H) (hn : nOwn Γ = true) : Rel (nC H) (fun _ => False) Γ () σ H where
  len := R.len
  wr := trivial
  ext := .refl _ _
  zd := fun _ z => z.elim
  zn := fun _ z => z.elim
  dist := fun i j di dj a h => absurd h (nOwn_get hn)
  val := fun i fr d h => by
    obtain ⟨v, h1, h2⟩ := R.val i fr d h
    refine ⟨v, h1, Rep.move d h2 (fun b _ z => ?_) (fun _ _ h _ => h) fun _ _ h => h⟩
    rcases z with (z | z | ⟨j, e, z, _⟩) | z
    · exact z.elim
    · exact z.elim
    · exact absurd z (nOwn_get hn)
    · exact z.2.elim
  own := fun i d h => absurd h (nOwn_get hn)
abbrev HM := ∀ (H : Hp) (_ : Xn) (_ : Addr), SM (nC H)
def tryH (Kr : D → Prop) (i : Nat) (cl : List Str) (th : HM) (Γ : List Sl) : Xn → Prop := fun x => x.cls ∈ cl ∧ ∀ (H : Hp) (a : Addr), th H x a ⟨fun _ _ => False, fun d _ => d.flat = true ∧ Kr d, fun _ _ => False, fun _ _ => False⟩ (Γ.set i (.val true (.ref a))) ()
section
variable {X : Cx} {A0 : Addr → Prop} {H0 : Hp} {hA : ∀ b, A0 b → H0 b ≠ none} {i : Nat} {cl : List Str} {n k : Nat} {frs : List Bool} {P0 : PX} {ts : AM (pureC A0 H0 hA)} {th : HM} {cx en f : Str} {c : Value} {Wout : WX} {e : Expr} {es : List Expr} {b₀ : Stmt} {suite : List Stmt} {p p2 p3 p4 np pos : Pos} {ps : List Str}
def tryE (i : Nat) (cl : List Str) (n : Nat) (frs : List Bool) (P0 : PX) (ts : AM (pureC A0 H0 hA)) (th : HM) : SM (pureC A0 H0 hA) := fun E Γ w => nOwn Γ = true ∧ ts Γ w fun ps _ => ps.length = n ∧ frOk frs ps = true ∧ P0 (ps.map (·.2)) (fun _ => E.nx Γ ()) (tryH (fun d => E.rt d ()) i cl th Γ)
def tryR (i : Nat) (cl : List Str) (n : Nat) (frs : List Bool) (P0 : PX) (ts : AM (pureC A0 H0 hA)) (th : HM) : SM (pureC A0 H0 hA) := fun E Γ w => nOwn Γ = true ∧ ts Γ w fun ps _ => ps.length = n ∧ frOk frs ps = true ∧ P0 (ps.map (·.2)) (fun d => E.rt d ()) (tryH (fun d => E.rt d ()) i cl th Γ)
def hTS (mg : Str → Option Value) (cl : List Str) (th : HM) (a : Addr) (cls : Value) (d : Option Addr) : TS := fun D σ H => ∃ x H1, XIn mg x cls d H1 ∧ x.cls ∈ cl ∧ lS (nC H1) (th H1 x a) D σ H
theorem wish_ok {Z : Addr → Prop} {Γ : List Sl} {σ : L2.St} {H H1 : Hp} {E0 : EndM (pureC A0 H0 hA)} {Dn : Ends} (R : Rel (pureC A0 H0 hA) Z Γ () σ H) (hn : nOwn Γ = true) (e1 : Ext (fun _ => False) H H1) (o : Ok (pureC A0 H0 hA) Z Γ σ H E0 Dn) (hct : ∀ x ∈ cl, ∃ D, X.mg x = some (.ref D) ∧ PySem.W.exmOne X.K (.ref D) c = some true)
    {x : Xn} {cls : Value} {d : Option Addr} {H' : Hp} (hk : tryH (fun d => E0.rt d ()) i cl th Γ x) (hx : XAt X.mg H1 x cls d H') : wAs X.K c i (hTS X.mg cl th) Wout Dn cls d σ H' := by
  obtain ⟨hcl, hk⟩ := hk
  obtain ⟨D, hD, hm⟩ := hct _ hcl
  have hc2 : cls = .ref D := by obtain ⟨D', h1, h2, _⟩ := hx; rw [hD] at h1; cases h1; exact h2
  have sm : Same H1 H' := by obtain ⟨_, _, _, h, _⟩ := hx; exact h
  have eH : Ext (fun _ => False) H H' := e1.trans (.same sm)
  have RH : Rel (pureC A0 H0 hA) Z Γ () σ H' := R.step (w' := ()) eH trivial
  refine ⟨true, by rw [hc2]; exact hm, fun _ a ha => ⟨x, H', hx.xin, hcl, fun _ => False, Γ.set i (.val true (.ref a)), (), _, (RH.restart hn).setVal (v := .ref a) rfl, hk H' a, ⟨fun _ _ _ _ h _ _ => h.elim, fun _ _ _ _ h _ _ => h.elim, fun _ _ _ _ h _ _ => h.elim, fun dd w' v H2 h g _ r => ?_⟩⟩, fun h => by cases h⟩
  exact o.rt dd () v H2 h.2 ((R.ext.trans eH).trans (g.mono fun _ z => z)) trivial (Rep.flat dd h.1 r)
theorem vtryE (hs : X.stack = X.env :: X.outer) (hfr : X.env.frame = some X.env.locals) (hN : X.N.Nodup) (hi : X.N[i]? = some en) (hln : X.env.kindOf en = some .local) (hc : Names X cx c) (tk : Takes X Wout) (hct : ∀ x ∈ cl, ∃ D, X.mg x = some (.ref D) ∧ PySem.W.exmOne X.K (.ref D) c = some true)
    (F : FnC X.prog X.w X.K X.mg X.base f k ps (spX X.mg n frs P0)) (hr : Room k X.A) (ha : ∀ pn xe, VA (X.tr pn xe) (pureC A0 H0 hA) (e :: es) ts)
    (hsu : ∀ (a : Addr) (oe : Obj) (cls : Value) (d : Option Addr) (pn : List (Addr × Obj)) (x : Xn) (H1 : Hp), Zc cls d oe → (∃ vs, oe.data = .fields vs) → XIn X.mg x cls d H1 → x.cls ∈ cl → VSs (X.suite a ((a, oe) :: pn)) (nC H1) (b₀ :: suite) (th H1 x a))
    (hg : Gl X f := by rfl) (hdb : (f == ("__debug__" : Str)) = false := by decide) (hsw : ∀ pn xe, swapsWith (.Call (.Name f p) (e :: es) [] p2) none p3.line (X.tr pn xe).env = pure false := by intro _ _; rfl)
    (he : starEach (e :: es) X.env = (false, eval e X.env) :: starEach es X.env := by rfl) (hpl : (backTo p2 (starEach es X.env)).any (·.1) = false := by rfl) :
    VS1 X (pureC A0 H0 hA) (.Try [.Expr (.Call (.Name f p) (e :: es) [] p2) p3] [.ExceptHandler (some (.Name cx np)) (some en) (b₀ :: suite) p4] [] [] pos) (tryE i cl n frs P0 ts th) := by
  obtain ⟨ff, fd, hm, hk, hB, F⟩ := F
  refine PSimp (ps_try_as (ts := hTS X.mg cl th) hs hfr hN hi hln hc tk (fun W pn xe tkW _ => pss_one (ps_expr (pe_callS (X := X.tr pn xe) F hr hg hm hk hB (fun σ => passAt tkW σ) (ha pn xe) hdb he hpl) (hsw pn xe)))
    (fun a oe cls d pn hz hf => ⟨fun pins s σ H D I ⟨x, H1, hx, hcl, h⟩ => (hsu a oe cls d pn x H1 hz hf hx hcl).run pins s σ H D I h⟩)) fun D σ H ⟨Z, Γ, w, E0, R, ⟨hn, ht⟩, o⟩ => ?_
  refine ⟨Z, Γ, w, _, R, ht, fun ps w1 vs H1 h1 e1 wr1 r1 => ?_⟩
  obtain ⟨hl, hf, h1⟩ := h1
  have B := R.bs.ext e1
  exact ⟨fun b => H b ≠ none, ps.map (·.2), _, _, fun b h => e1.dom b h, by simpa using hl, args_ok B (fun _ z => z.elim) r1 hf, h1, fun d v H' hd g r => o.nx _ _ _ _ hd (R.step (w' := ()) (e1.trans (.same g)) trivial) (.of_ext (e1.trans (.same g))), fun x cls d H' hk hx => wish_ok R hn e1 o hct hk hx⟩
theorem vtryR (hs : X.stack = X.env :: X.outer) (hfr : X.env.frame = some X.env.locals) (hN : X.N.Nodup) (hi : X.N[i]? = some en) (hln : X.env.kindOf en = some .local) (hc : Names X cx c) (tk : Takes X Wout) (hct : ∀ x ∈ cl, ∃ D, X.mg x = some (.ref D) ∧ PySem.W.exmOne X.K (.ref D) c = some true)
    (F : FnC X.prog X.w X.K X.mg X.base f k ps (spX X.mg n frs P0)) (hr : Room k X.A) (ha : ∀ pn xe, VA (X.tr pn xe) (pureC A0 H0 hA) (e :: es) ts)
    (hsu : ∀ (a : Addr) (oe : Obj) (cls : Value) (d : Option Addr) (pn : List (Addr × Obj)) (x : Xn) (H1 : Hp), Zc cls d oe → (∃ vs, oe.data = .fields vs) → XIn X.mg x cls d H1 → x.cls ∈ cl → VSs (X.suite a ((a, oe) :: pn)) (nC H1) (b₀ :: suite) (th H1 x a))
    (hg : Gl X f := by rfl) (hdb : (f == ("__debug__" : Str)) = false := by decide)
    (he : starEach (e :: es) X.env = (false, eval e X.env) :: starEach es X.env := by rfl) (hpl : (backTo p2 (starEach es X.env)).any (·.1) = false := by rfl) :
    VS1 X (pureC A0 H0 hA) (.Try [.Return (some (.Call (.Name f p) (e :: es) [] p2)) p3] [.ExceptHandler (some (.Name cx np)) (some en) (b₀ :: suite) p4] [] [] pos) (tryR i cl n frs P0 ts th) := by
  obtain ⟨ff, fd, hm, hk, hB, F⟩ := F
  refine PSimp (ps_try_as (ts := hTS X.mg cl th) hs hfr hN hi hln hc tk (fun W pn xe tkW _ => pss_one (ps_ret (pe_callS (X := X.tr pn xe) F hr hg hm hk hB (fun σ => passAt tkW σ) (ha pn xe) hdb he hpl)))
    (fun a oe cls d pn hz hf => ⟨fun pins s σ H D I ⟨x, H1, hx, hcl, h⟩ => (hsu a oe cls d pn x H1 hz hf hx hcl).run pins s σ H D I h⟩)) fun D σ H ⟨Z, Γ, w, E0, R, ⟨hn, ht⟩, o⟩ => ?_
  refine ⟨Z, Γ, w, _, R, ht, fun ps w1 vs H1 h1 e1 wr1 r1 => ?_⟩
  obtain ⟨hl, hf, h1⟩ := h1
  have B := R.bs.ext e1
  exact ⟨fun b => H b ≠ none, ps.map (·.2), _, _, fun b h => e1.dom b h, by simpa using hl, args_ok B (fun _ z => z.elim) r1 hf, h1, fun d v H' hd g r => o.rt _ () _ _ hd ((R.ext.trans e1).trans (.same g)) trivial (Rep.move d r (fun b _ z => R.sub b (.inr z)) (fun _ _ h _ => h) fun _ _ h => h), fun x cls d H' hk hx => wish_ok R hn e1 o hct hk hx⟩
end
/-! ### [f, g][i](..) -/
section
variable {X : Cx} {ω : Type} {C : Cn ω} {Kx : Xn → Prop} {E0 : XK}
/-- a call of what an expression gives: the def at a, which may raise -/
def callSX (te : EM C) (a : Addr) (n : Nat) (frs : List Bool) (P0 : PX) (Kx : Xn → Prop) (ts : AM C) : EM C := fun Γ w Q => te Γ w fun _ d w1 => d = .ref a ∧ callX n frs P0 Kx ts Γ w1 Q
theorem vcallSX {x : Str} {k : Nat} {ps : List Str} {n : Nat} {frs : List Bool} {P0 : PX} {ea eb : Expr} {e : Expr} {es : List Expr} {te : EM C} {ts : AM C} {p pos : Pos} (F : FnC X.prog X.w X.K X.mg X.base x k ps (spX X.mg n frs P0)) (hr : Room k X.A) (hp : Out X C Kx E0) (hf : VE X C (.Subscript ea eb p) te) (ha : VA X C (e :: es) ts)
    (he : starEach (e :: es) X.env = (false, eval e X.env) :: starEach es X.env := by rfl) (hpl : (backTo pos (starEach es X.env)).any (·.1) = false := by rfl) : VE X C (.Call (.Subscript ea eb p) (e :: es) [] pos) (callSX te (adr X.mg x) n frs P0 Kx ts) := by
  obtain ⟨f, fd, hm, hk, hB, F⟩ := F
  refine ⟨fun pins s σ H Q I ⟨Z, Γ, w, Q0, R, ht, hq⟩ => ?_⟩
  show wpAny _ _ (do callWith pos (← eval (.Subscript ea eb p) X.env) [] (backTo pos (starEach (e :: es) X.env)) (backToKw pos (keywordEach [] X.env))) _ _ _
  refine wpAny_bind (thn (hf.run pins s σ H (fun v H1 => v = .ref f ∧ ∃ w1, Ext C.W H H1 ∧ C.wr w1 H1 ∧ callX n frs P0 Kx ts Γ w1 Q0) I ⟨Z, Γ, w, _, R, ht, fun md d w1 v H1 h1 e1 wr1 r1 => ?_⟩) fun u s1 ⟨v, H1, I1, r1, q1⟩ => ?_)
  · obtain ⟨rfl, h1⟩ := h1
    have ev : v = .ref (adr X.mg x) := r1.any (R.bs.ext e1)
    rw [adr_of hm] at ev
    exact ⟨ev, w1, e1, wr1, h1⟩
  · obtain ⟨rfl, w1, e1, wr1, h1⟩ := q1
    cases r1
    refine PySem.W.callWith_K (h₀ := X.base) I1.ok.mod.kin hk (thn (ha.run pos pins s1 σ _ _ I1 ⟨Z, Γ, w1, _, R.step e1 wr1, h1, fun ps w2 vs H2 h2 e2 wr2 r2 => ?_⟩) fun us s2 ⟨vs, H2, I2, r, q⟩ => ⟨I2.kIn, run_fn (dvs := []) F hr hB .nil hp.1 I2 r q⟩) he hpl
    obtain ⟨hl, hf, h2⟩ := h2
    have R1 := R.step e1 wr1
    have B := R1.bs.ext e2
    refine ⟨fun b => H1 b ≠ none, ps.map (·.2), fun d => Q0 .F d w2, Kx, fun b h => e2.dom b h, by simpa using hl, ?_, h2, fun d v H' hd g r => hq .F d w2 v H' hd (e1.trans (e2.trans (.same g))) ((R1.step e2 wr2).wsame g) (RepM.start (md := .F) r e1.dom), fun x cls d H' hk hx => hp.2.2 x cls d H2 H' hk ((R.ext.trans e1).trans e2) hx⟩
    rw [List.append_nil]
    exact args_ok B (fun _ z => z.elim) r2 hf
end
end VS

namespace VS
open PySem PySem.Spec PyProof.Rows L2
/-! ### an exception class's own __init__ -/
def MkTE (K : PySem.W.Frag) (mg : Str → Option Value) (x : Str) (Cc : Addr) (qual : Str) (st : Stmt) (ps : List Str) : Prop :=
  ∃ (fI : Addr) (fd : FuncData), mg x = some (.ref Cc) ∧ OexC K Cc ∧ PySem.W.findIn K (.ref Cc) "__init__" = some (some (.ref fI)) ∧ PySem.W.typeIn K (.ref fI) = some (.type "function") ∧ Fun K "__init__" qual st fI fd ∧ Binds K fd ps []
section
variable {P : Program} {w : World} {K : PySem.W.Frag} {mg : Str → Option Value} {base : Heap}
theorem okE1 {x qual f : Str} {st : Stmt} {N : List Str} {k : Nat} {Cc : Addr} {ps : List Str} (T : MkTE K mg x Cc qual st ps) (S : FnScope N ps (defScope st)) (hps : ps.length = 2) (hf : PySem.W.findIn K (.ref Cc) f = some none)
    (hb : ∀ (fa : Addr) (cdv : Value) (A : Around) (outer : List Env) (s : Shared) (H : Hp) (E : XK), PSs (cxOf (L2.CX P w) P w K mg base N qual (defScope st) fa cdv A outer s H E) (defBody st) (tOst K f (tVar 0) (tVar 1))) :
    MkE P w K mg base x (k + 1) 1 [f] := by
  obtain ⟨fI, fd, hm, O, hI, ht, F, hB⟩ := T
  refine ⟨Cc, fI, fd, ps, hm, O, hI, ht, hB, F.okX S (fun vs H Q E h => ?_) (fun cdv A outer s H vs Q E hr h => ?_)⟩
  · obtain ⟨a, ws, rfl, hl, _⟩ := h
    rw [List.length_cons, hl, hps]
  · obtain ⟨a, ws, rfl, hl, ea, hQ⟩ := h
    match ws, hl with
    | [v], _ =>
      refine ⟨_, hb fI cdv A outer s H E, ?_⟩
      refine ⟨v, rfl, .ref a, rfl, a, Cc, rfl, O, hf, .inl ⟨ea, fun dx n ne => ?_⟩⟩
      refine hQ dx _ n ne upd_same (by rw [upd_ne ne, upd_same]; rfl) fun b h1 h2 => by rw [upd_ne h1, upd_ne h2]
theorem okE2 {x qual f g : Str} {st : Stmt} {N : List Str} {k : Nat} {Cc : Addr} {ps : List Str} (T : MkTE K mg x Cc qual st ps) (S : FnScope N ps (defScope st)) (hps : ps.length = 3) (hf : PySem.W.findIn K (.ref Cc) f = some none) (hg : PySem.W.findIn K (.ref Cc) g = some none)
    (hb : ∀ (fa : Addr) (cdv : Value) (A : Around) (outer : List Env) (s : Shared) (H : Hp) (E : XK), PSs (cxOf (L2.CX P w) P w K mg base N qual (defScope st) fa cdv A outer s H E) (defBody st) (tSeq (tOst K f (tVar 0) (tVar 1)) (tOst K g (tVar 0) (tVar 2)))) :
    MkE P w K mg base x (k + 1) 2 [g, f] := by
  obtain ⟨fI, fd, hm, O, hI, ht, F, hB⟩ := T
  refine ⟨Cc, fI, fd, ps, hm, O, hI, ht, hB, F.okX S (fun vs H Q E h => ?_) (fun cdv A outer s H vs Q E hr h => ?_)⟩
  · obtain ⟨a, ws, rfl, hl, _⟩ := h
    rw [List.length_cons, hl, hps]
  · obtain ⟨a, ws, rfl, hl, ea, hQ⟩ := h
    match ws, hl with
    | [v, u], _ =>
      refine ⟨_, hb fI cdv A outer s H E, ?_⟩
      refine ⟨v, rfl, .ref a, rfl, a, Cc, rfl, O, hf, .inl ⟨ea, fun dx n ne => ?_⟩⟩
      refine ⟨u, rfl, .ref a, rfl, a, Cc, rfl, O, hg, .inr ⟨dx, [(f, v)], upd_same, by rw [upd_ne ne, upd_same], by show 1 ≤ 900; decide, ?_⟩⟩
      refine hQ dx _ n ne (by rw [upd_ne (Ne.symm ne), upd_same]) (by rw [upd_same]; rfl) fun b h1 h2 => by rw [upd_ne h2, upd_ne h1, upd_ne h2]
end
/-! facts -/
def oexB (K : PySem.W.Frag) (C : Addr) : Bool := (match K.lookup C with
  | some ⟨.type "type", _, .cls cd, sl⟩ => (match cd.mro, sl.toList with
    | .ref C' :: bm, [_, _, _, _, some (.builtin n), _] => C' == C && n == "ValueError.__new__" && !cd.hasDel && cd.hasDict && PySem.HandSPX.refsVE bm
    | _, _ => false)
  | _ => false) && (decide (PySem.W.findIn K (.ref C) "__setattr__" = some (some (.builtin "object.__setattr__"))) && (decide (PySem.W.subIn K (.ref C) (.type "BaseException") = some true) && (decide (PySem.W.typeIn K (.ref C) = some (.type "type")) && PySem.W.keepIn K (.ref C))))
theorem oexB_ok {K : PySem.W.Frag} {C : Addr} (h : oexB K C = true) : OexC K C := by
  obtain ⟨h1, h⟩ := He.ba h
  obtain ⟨h2, h⟩ := He.ba h
  obtain ⟨h3, h⟩ := He.ba h
  obtain ⟨h4, h5⟩ := He.ba h
  refine ⟨?_, of_decide_eq_true h2, of_decide_eq_true h3, of_decide_eq_true h4, h5⟩
  split at h1
  · rename_i dd cd sl ho
    split at h1
    · rename_i C' bm k0 k1 k2 k3 n k5 hm hs
      simp only [Bool.and_eq_true, beq_iff_eq, Bool.not_eq_true'] at h1
      obtain ⟨⟨⟨⟨rfl, rfl⟩, hdel⟩, hdct⟩, ht⟩ := h1
      obtain ⟨nm, bs, mro, ns, qn, hd, sn, sub, ab, col, del⟩ := cd
      dsimp only at hm hdel hdct
      subst hm hdel hdct
      have hsl : sl = #[k0, k1, k2, k3, some (.builtin "ValueError.__new__"), k5] := by
        obtain ⟨l⟩ := sl
        simp only at hs
        rw [hs]
      subst hsl
      exact ⟨nm, qn, ns, bs, bm, sn, sub, ab, col, dd, k0, k1, k2, k3, k5, ho, ht⟩
    · cases h1
  · cases h1
def oxB (K : PySem.W.Frag) (x : Str) : Bool := (He.Fa.glo x).ok K && (oexB K (He.ga K x) && (He.eqO (PySem.W.findIn K (.ref (He.ga K x)) "__init__") (some (some (.ref (He.ma K (He.ga K x) "__init__")))) && decide (PySem.W.typeIn K (.ref (He.ma K (He.ga K x) "__init__")) = some (.type "function"))))
theorem mkTEOf {K : PySem.W.Frag} {h : Heap} {mg : Str → Option Value} {fa : List He.Fa} {fn : List He.DefD} (X : K.In h) (G : h.Ns mainGlobals mg) (c : He.SaysD fa fn K) (i : Nat) {x q : Str} {st : Stmt} {ps : List Str} (hd : fn[i]? = some (mOf x "__init__" q st)) (hx : oxB K x = true)
    (hb : ∀ (kV doc pm : Value) (an : Option Addr) (cdv ct : Value) (us : List Value), us.length = ps.length → bindArgs (PySem.W.fnOf "__init__" q (defArgs st) (defBody st) (defScope st) .none kV doc pm an cdv ct) ⟨us, []⟩ = pure (ps.zip us)) : MkTE K mg x (He.ga K x) q st ps := by
  obtain ⟨fd, F⟩ := c.def_ i hd
  obtain ⟨h1, h2⟩ := He.ba hx
  obtain ⟨h2, h3⟩ := He.ba h2
  obtain ⟨h3, h4⟩ := He.ba h3
  exact ⟨_, fd, He.glo_ok X G h1, oexB_ok h2, He.eqO_ok h3, of_decide_eq_true h4, funOf F, FunD.bindsN F hb⟩
end VS

namespace VS
open PySem PySem.Spec PyProof.Rows L2
/-! ### lists of bools: count, index -/
theorem eqU_count {y : V} : ∀ {ys : List V} {us : List Value}, Vals ys us → ys.all flatV = true → us.countP (eqU y) = ys.countP fun z => eqV z y
  | _, _, .nil, _ => rfl
  | z :: ys, u :: us, .cons r t, f => by
    rw [List.all_cons, Bool.and_eq_true] at f
    rw [List.countP_cons, List.countP_cons, eqU_of r f.1, eqU_count t f.2]
def rCntF (K : PySem.W.Frag) : V → List V → Hp → VK → Prop := fun x xs H Q => ∃ (p : Addr) (ys : List V) (y : V), x = .ref p ∧ xs = [y] ∧ SqL K H p ys ∧ flatV y = true ∧ ys.all flatV = true ∧ Q (.int (ys.countP fun z => eqV z y : Nat)) H
theorem mt_fcount {X : Cx} : MtR X "list.count" (rCntF X.K) := by
  intro pins s σ H x xs v us Q I rx rxs h
  obtain ⟨p, ys, y, rfl, rfl, hs, fy, fys, q⟩ := h
  cases rx
  obtain ⟨u, rfl, ru⟩ := rxs.one
  obtain ⟨its, rv, ⟨⟨cls, dd, data, sl⟩, n, ho, hc, hdn, hd⟩, hlen⟩ := I.list hs
  simp only at hc hd
  subst hc hd
  refine call_meets PySem.F.slot_list_count ⟨_, ho, rfl⟩ PySem.F.entry_list_count (PySem.F.args_list_count_2 _ _)
    (SeqAt.list_countAt p its.toArray n dd sl u (eqU y)) ⟨ho, fun z hz => mem_eqAt ru fy rv fys z (by simpa using hz), ?_⟩
  have ec : its.toArray.toList.countP (eqU y) = ys.countP fun z => eqV z y := eqU_count rv fys
  refine ⟨.int (ys.countP (fun z => eqV z y) : Nat), H, I.tok _, ⟨s.toks, ?_⟩, q⟩
  show Value.int ((its.toArray.toList.countP (eqU y) : Nat) : Int) s.toks = Value.int ((ys.countP (fun z => eqV z y) : Nat) : Int) s.toks
  rw [ec]
theorem bls_flat : ∀ bs : List Bool, (bs.map V.bl).all flatV = true
  | [] => rfl
  | b :: bs => by rw [List.map_cons, List.all_cons, bls_flat bs]; rfl
theorem bls_count (k : Bool) : ∀ bs : List Bool, (bs.map V.bl).countP (fun z => eqV z (.bl k)) = bs.countP (· == k)
  | [] => rfl
  | b :: bs => by rw [List.map_cons, List.countP_cons, List.countP_cons, bls_count k bs]; rfl
theorem RepAll.bls {H : Hp} {O : Addr → Prop} : ∀ (ns : List Bool) {vs : List V}, RepAll H (ns.map D.bl) O vs → vs = ns.map V.bl
  | [], _, r => r
  | n :: ns, _, r => by
    obtain ⟨v, r', rfl, h', q'⟩ := r
    cases h'
    rw [RepAll.bls ns q']; rfl
section
variable {X : Cx} {ω : Type} {C : Cn ω}
def cntBM (te ta : EM C) : EM C := fun Γ w Q => te Γ w fun _ d w1 => ∃ ns : List Bool, d = .lst (ns.map D.bl) ∧ ta Γ w1 fun _ e w2 => ∃ k, e = .bl k ∧ Q .F (.int ((ns.countP (· == k) : Nat) : Int)) w2
theorem vcntB {st : Expr} {te ta : EM C} (hp : PE X st (tBM X.K "list" (rCntF X.K) (lE C te) (lA C (consA ta nilA)))) : VE X C st (cntBM te ta) :=
  PEimp hp fun σ H Q ⟨Z, Γ, w, Q0, R, ht, hq⟩ => ⟨Z, Γ, w, _, R, ht, fun md d w1 v H1 h1 e1 wr1 r1 => by
    obtain ⟨ns, rfl, h1⟩ := h1
    obtain ⟨a, vs, rfl, ha, q⟩ := r1.lst
    cases RepAll.bls ns q
    refine ⟨.inl ⟨rfl, _, SqL.of ha⟩, Z, Γ, w1, (fun ps w2 => match ps with | [(md, e)] => ∃ k, e = .bl k ∧ Q0 .F (.int ((ns.countP (· == k) : Nat) : Int)) w2 | _ => False), R.step e1 wr1, h1, fun ps w2 us H2 h2 e2 wr2 r2 => ?_⟩
    dsimp only at h2
    split at h2
    · rename_i md2 e
      obtain ⟨k, rfl, h2⟩ := h2
      obtain ⟨u, rfl, ru⟩ := r2.one
      have eu : u = .bl k := ru.any ((R.step e1 wr1).bs.ext e2)
      subst eu
      obtain ⟨a', vs', ea, ha', q'⟩ := (r1.ext (R.bs.ext e1) e2).lst
      cases ea
      cases RepAll.bls ns q'
      refine ⟨a, _, .bl k, rfl, rfl, .of ha', rfl, bls_flat ns, ?_⟩
      rw [bls_count]
      exact hq _ _ _ _ _ h2 (e1.trans e2) wr2 (RepM.flat (d := .int _) rfl)
    · exact h2.elim⟩
def idxBM (te ta : EM C) : EM C := fun Γ w Q => te Γ w fun _ d w1 => ∃ ns : List Bool, d = .lst (ns.map D.bl) ∧ ta Γ w1 fun _ e w2 => ∃ k j, e = .bl k ∧ ns[j]? = some k ∧ (∀ m, m < j → ns[m]? ≠ some k) ∧ Q .F (.int ((j : Nat) : Int)) w2
theorem vidxB {st : Expr} {te ta : EM C} (hp : PE X st (tBM X.K "list" (rIndex X.K) (lE C te) (lA C (consA ta nilA)))) : VE X C st (idxBM te ta) :=
  PEimp hp fun σ H Q ⟨Z, Γ, w, Q0, R, ht, hq⟩ => ⟨Z, Γ, w, _, R, ht, fun md d w1 v H1 h1 e1 wr1 r1 => by
    obtain ⟨ns, rfl, h1⟩ := h1
    obtain ⟨a, vs, rfl, ha, q⟩ := r1.lst
    cases RepAll.bls ns q
    refine ⟨.inl ⟨rfl, _, SqL.of ha⟩, Z, Γ, w1, (fun ps w2 => match ps with | [(md, e)] => ∃ k j, e = .bl k ∧ ns[j]? = some k ∧ (∀ m, m < j → ns[m]? ≠ some k) ∧ Q0 .F (.int ((j : Nat) : Int)) w2 | _ => False), R.step e1 wr1, h1, fun ps w2 us H2 h2 e2 wr2 r2 => ?_⟩
    dsimp only at h2
    split at h2
    · rename_i md2 e
      obtain ⟨k, j, rfl, hj, hm, h2⟩ := h2
      obtain ⟨u, rfl, ru⟩ := r2.one
      have eu : u = .bl k := ru.any ((R.step e1 wr1).bs.ext e2)
      subst eu
      obtain ⟨a', vs', ea, ha', q'⟩ := (r1.ext (R.bs.ext e1) e2).lst
      cases ea
      cases RepAll.bls ns q'
      refine ⟨a, _, .bl k, j, .bl k, rfl, rfl, .of ha', rfl, bls_flat ns, by rw [List.getElem?_map, hj]; rfl, by simp [eqV], fun m z' hmj hz => ?_, hq _ _ _ _ _ h2 (e1.trans e2) wr2 (RepM.flat (d := .int _) rfl)⟩
      rw [List.getElem?_map] at hz
      cases e : ns[m]? with
      | none => rw [e] at hz; cases hz
      | some b =>
        rw [e] at hz; cases hz
        cases b <;> cases k <;> first | rfl | exact absurd e (hm m hmj)
    · exact h2.elim⟩
end
/-! ### facts of exception classes -/
/-- a class without its own __init__ is raised -/
def RsK (K : PySem.W.Frag) (mg : Str → Option Value) (x : Str) : Prop := ∃ C, mg x = some (.ref C) ∧ PySem.W.excIn K C He.veBase "ValueError.__new__" = true ∧ PySem.W.keepIn K (.ref C) = true ∧ PySem.W.subIn K (.ref C) (.type "BaseException") = some true ∧ PySem.W.typeIn K (.ref C) = some (.type "type")
theorem vraiseK {X : Cx} {ω : Type} {C : Cn ω} {Kx : Xn → Prop} {E0 : XK} {cls m : Str} {j : Nat} {p p2 pos pos2 : Pos} (G : RsK X.K X.mg cls) (hc : X.calm = true) (hp : Out X C Kx E0) (hg : Gl X cls := by rfl) (hdb : (cls == ("__debug__" : Str)) = false := by decide) :
    VS1 X C (.Raise (some (.Call (.Name cls p) [.Constant (.str m) j p2] [] pos)) none pos2) (rsM cls Kx) := by
  obtain ⟨Cc, hm, h1, h2, h3, h4⟩ := G
  exact vraise0 hc hp hm (pmk_own PySem.F.excBase_ValueError h1 hm h2 (raises_own h3 h4) hg hdb)
structure TryK (K : PySem.W.Frag) (mg : Str → Option Value) (cx : Str) (cl L : List Str) : Prop where
  hc : mg cx = some (.ref (adr mg cx))
  ct : ∀ x ∈ cl, ∃ D, mg x = some (.ref D) ∧ PySem.W.exmOne K (.ref D) (.ref (adr mg cx)) = some true
  ex : ∀ x ∈ cl, ExK K mg L x
  nv : mg "ValueError" = none
structure Try2K (K : PySem.W.Frag) (mg : Str → Option Value) (c1 c2 : Str) (cl : List Str) : Prop where
  h1 : mg c1 = some (.ref (adr mg c1))
  h2 : mg c2 = some (.ref (adr mg c2))
  ct : ∀ x ∈ cl, ∃ D, mg x = some (.ref D) ∧ PySem.W.exmOne K (.ref D) (.ref (adr mg c1)) = some (exSub x c1) ∧ (exSub x c1 = false → PySem.W.exmOne K (.ref D) (.ref (adr mg c2)) = some true)
inductive Xf where
  | rs (x : Str)
  | tri (cx : Str) (cl L : List Str)
  | fld (x f : Str)
  | ox (x : Str)
  | tri2 (c1 c2 : Str) (cl : List Str)
def gloB (K : PySem.W.Frag) (x : Str) : Bool := (He.Fa.glo x).ok K
def excCB (K : PySem.W.Frag) (D : Addr) : Bool := decide (PySem.W.findIn K (.ref D) "__getattribute__" = some (some (.builtin "BaseException.__getattribute__"))) && (decide (PySem.W.findIn K (.ref D) "__getattr__" = some none) && (decide (PySem.W.subIn K (.ref D) (.type "BaseException") = some true) && (PySem.W.hasDictIn K D &&
  (decide (PySem.W.findIn K (.ref D) "__class__" = some (some (.builtin "object.__class__"))) && (decide (PySem.W.specialIn K (.builtin "object.__class__") "__get__" = some (some (.builtin "getset_descriptor.__get__"))) && (decide (PySem.W.takesIn K (.builtin "object.__class__") = some true) && decide (PySem.W.mroIn K D (.type "object") = some true)))))))
theorem excCB_ok {K : PySem.W.Frag} {D : Addr} (h : excCB K D = true) : ExcC K D := by
  obtain ⟨h1, h⟩ := He.ba h
  obtain ⟨h2, h⟩ := He.ba h
  obtain ⟨h3, h⟩ := He.ba h
  obtain ⟨h4, h⟩ := He.ba h
  obtain ⟨h5, h⟩ := He.ba h
  obtain ⟨h6, h⟩ := He.ba h
  obtain ⟨h7, h8⟩ := He.ba h
  exact ⟨of_decide_eq_true h1, of_decide_eq_true h2, of_decide_eq_true h3, h4, of_decide_eq_true h5, of_decide_eq_true h6, of_decide_eq_true h7, of_decide_eq_true h8⟩
def exkB (K : PySem.W.Frag) (L : List Str) (x : Str) : Bool := gloB K x && (excCB K (He.ga K x) && ((L.all fun c => gloB K c && decide (PySem.W.kitOne K (.ref (He.ga K x)) (.ref (He.ga K c)) = some (exSub x c))) && decide (PySem.W.kitOne K (.ref (He.ga K x)) (.type "ValueError") = some true)))
def Xf.ok (K : PySem.W.Frag) : Xf → Bool
  | .rs x => gloB K x && (He.Fa.exc x).ok K
  | .tri cx cl L => gloB K cx && ((cl.all fun x => gloB K x && decide (PySem.W.exmOne K (.ref (He.ga K x)) (.ref (He.ga K cx)) = some true)) && ((cl.all fun x => exkB K L x) && (He.Fa.free "ValueError").ok K))
  | .fld x f => gloB K x && (xfB K (He.ga K x) && decide (PySem.W.findIn K (.ref (He.ga K x)) f = some none))
  | .ox x => oxB K x
  | .tri2 c1 c2 cl => gloB K c1 && (gloB K c2 && cl.all fun x => gloB K x && (decide (PySem.W.exmOne K (.ref (He.ga K x)) (.ref (He.ga K c1)) = some (exSub x c1)) && (exSub x c1 || decide (PySem.W.exmOne K (.ref (He.ga K x)) (.ref (He.ga K c2)) = some true))))
section
variable {K : PySem.W.Frag} {h : Heap} {mg : Str → Option Value}
theorem rs_ok (X : K.In h) (G : h.Ns mainGlobals mg) {x : Str} (c : (Xf.rs x).ok K = true) : RsK K mg x := by
  obtain ⟨h1, h2⟩ := He.ba c
  obtain ⟨q1, q2, q3, q4⟩ := He.exc_ok h2
  exact ⟨He.ga K x, He.glo_ok X G h1, q1, q2, q3, q4⟩
theorem exk_ok (X : K.In h) (G : h.Ns mainGlobals mg) {x : Str} {L : List Str} (c : exkB K L x = true) : ExK K mg L x := by
  obtain ⟨h1, h2⟩ := He.ba c
  obtain ⟨h2, h3⟩ := He.ba h2
  obtain ⟨h3, h4⟩ := He.ba h3
  refine ⟨He.ga K x, He.glo_ok X G h1, excCB_ok h2, fun c hc => ?_, of_decide_eq_true h4⟩
  obtain ⟨q1, q2⟩ := He.ba (List.all_eq_true.mp h3 c hc)
  exact ⟨He.ga K c, He.glo_ok X G q1, of_decide_eq_true q2⟩
theorem tri_ok (X : K.In h) (G : h.Ns mainGlobals mg) {cx : Str} {cl L : List Str} (c : (Xf.tri cx cl L).ok K = true) : TryK K mg cx cl L := by
  obtain ⟨h1, h2⟩ := He.ba c
  obtain ⟨h2, h3⟩ := He.ba h2
  obtain ⟨h3, h4⟩ := He.ba h3
  have e := He.glo_ok X G h1
  refine ⟨by rw [adr_of e]; exact e, fun x hx => ?_, fun x hx => exk_ok X G (List.all_eq_true.mp h3 x hx), He.free_ok X G h4⟩
  obtain ⟨q1, q2⟩ := He.ba (List.all_eq_true.mp h2 x hx)
  rw [adr_of e]
  exact ⟨He.ga K x, He.glo_ok X G q1, of_decide_eq_true q2⟩
theorem tri2_ok (X : K.In h) (G : h.Ns mainGlobals mg) {c1 c2 : Str} {cl : List Str} (c : (Xf.tri2 c1 c2 cl).ok K = true) : Try2K K mg c1 c2 cl := by
  obtain ⟨h1, h2⟩ := He.ba c
  obtain ⟨h2, h3⟩ := He.ba h2
  have e1 := He.glo_ok X G h1
  have e2 := He.glo_ok X G h2
  refine ⟨by rw [adr_of e1]; exact e1, by rw [adr_of e2]; exact e2, fun x hx => ?_⟩
  obtain ⟨q1, q2⟩ := He.ba (List.all_eq_true.mp h3 x hx)
  obtain ⟨q2, q3⟩ := He.ba q2
  rw [adr_of e1, adr_of e2]
  refine ⟨He.ga K x, He.glo_ok X G q1, of_decide_eq_true q2, fun z => ?_⟩
  rw [z, Bool.false_or] at q3
  exact of_decide_eq_true q3
/-- a field of an exception may be read -/
def FldK (K : PySem.W.Frag) (mg : Str → Option Value) (x f : Str) : Prop := ∃ D, mg x = some (.ref D) ∧ XfC K D ∧ PySem.W.findIn K (.ref D) f = some none
theorem fld_ok (X : K.In h) (G : h.Ns mainGlobals mg) {x f : Str} (c : (Xf.fld x f).ok K = true) : FldK K mg x f := by
  obtain ⟨h1, h2⟩ := He.ba c
  obtain ⟨h2, h3⟩ := He.ba h2
  exact ⟨He.ga K x, He.glo_ok X G h1, xfB_ok h2, of_decide_eq_true h3⟩
end
theorem fld_no {K : PySem.W.Frag} {x f : Str} (c : (Xf.fld x f).ok K = true) : PySem.W.findIn K (.ref (He.ga K x)) f = some none := of_decide_eq_true (He.ba (He.ba c).2).2
/-- e.f, a field of the class cn -/
def exfC {ω : Type} {C : Cn ω} (x : Xn) (a : Addr) (i : Nat) (cn f : Str) : EM C := fun Γ w Q => x.cls = cn ∧ exfM (C := C) x a i f Γ w Q
theorem vexfC {X : Cx} {a : Addr} {oe : Obj} {cls : Value} {d : Option Addr} {pn : List (Addr × Obj)} {H0 : Hp} {x : Xn} {i : Nat} {cn f : Str} {e : Expr} {pos : Pos} (FL : FldK X.K X.mg cn f) (hz : Zc cls d oe) (hf : ∃ vs, oe.data = .fields vs) (hx : XIn X.mg x cls d H0) (he : PE (X.suite a ((a, oe) :: pn)) e (tVar i))
    (hb : attributeBase e f X.env (eval e X.env) = eval e X.env := by rfl) : VE (X.suite a ((a, oe) :: pn)) (nC H0) (.Attribute e f pos) (exfC x a i cn f) := by
  by_cases h : x.cls = cn
  · obtain ⟨D, h1, h2, h3⟩ := FL
    rw [← h] at h1
    exact PEimp (vexf h1 h2 h3 hz hf hx he hb) fun σ H Q ⟨Z, Γ, w, Q0, R, ht, hq⟩ => ⟨Z, Γ, w, Q0, R, ht.2, hq⟩
  · exact ⟨fun pins s σ H Q I ⟨Z, Γ, w, Q0, R, ht, hq⟩ => absurd ht.1 h⟩
/-! ### the hook -/
abbrev AlX : Type := He.AlD × Bool
def obsX (n : Nat) (fa : List He.Fa) (fn : List He.DefD) (xf : List Xf) (g : Addr → Option Obj) : AlX := (He.obsDG n fa fn g, xf.all fun f => f.ok (He.frG g (He.asD g n)))
def hookX (n : Nat) (fa : List He.Fa) (fn : List He.DefD) (xf : List Xf) : PySem.W.Hook where
  α := AlX
  obs := fun s => obsX n fa fn xf s.heap.get?
  val := fun _ => (He.valD fn, true)
  says := fun _ h => ∃ K : PySem.W.Frag, K.In h ∧ He.SaysD fa fn K ∧ ∀ f ∈ xf, f.ok K = true
  of := fun _ _ e => ⟨_, He.frG_in, congrArg (fun z : AlX => z.1) e, fun f hf => List.all_eq_true.mp (congrArg (fun z : AlX => z.2) e) f hf⟩
  keeps := fun _ _ _ ⟨K, hK, c⟩ k => ⟨K, PySem.W.Frag.In.keeps hK k, c⟩
theorem obsX_eq {n : Nat} {fa : List He.Fa} {fn : List He.DefD} {xf : List Xf} {g : Addr → Option Obj} {s : Shared} (h : ∀ a, g a = s.heap.get? a) : obsX n fa fn xf g = (hookX n fa fn xf).obs s := by
  have e : g = s.heap.get? := funext h
  rw [e] <;> rfl
end VS

namespace VS
open PySem PySem.Spec PyProof.Rows L2
section
variable {ω : Type} {C : Cn ω} {Z : Addr → Prop} {Γ Γ1 Γ2 : List Sl} {w w' : ω} {σ σ1 σ2 : L2.St} {H H' H1 H2 Hs : Hp} {d : D} {v : V} {i : Nat} {fr : Bool}
/-- a new list or dict is given to a name that owns it -/
theorem Rel.setOwnP (R : Rel C Z Γ w σ Hs) (e : Ext C.W Hs H) (wr : C.wr w' H) (hd : d.isC = true) (r : RepM C Z Γ σ Hs H .PF d v) (hnv : ∀ a, v = .ref a → Hs a = none) : Rel C Z (Γ.set i (.own d)) w' (σ.set i (some v)) H ∧ Frm C Z Γ σ Hs (Γ.set i (.own d)) (σ.set i (some v)) H := by
  obtain ⟨a, rfl, hn, ht⟩ := Rep.top hd (r : Rep H d (fun b => Ow C Z Γ σ b ∨ C.A0 b) v)
  have hn : Hs a = none := hnv a rfl
  have nOw : ¬ Ow C Z Γ σ a := fun z => R.sub a (.inl z) hn
  have nA : ¬ C.A0 a := fun z => R.sub a (.inr z) hn
  have R1 := R.step e wr
  refine ⟨⟨by simp [R.len], wr, R1.ext, R1.zd, R1.zn, fun j k dj dk b h1 h2 h3 h4 => ?_, fun j fr' d' h => ?_, fun j d' h => ?_⟩, ⟨e.mono fun b z => .inl z, fun b h => (ow_setOwn R.len h).imp id fun z => by rw [z]; exact hn⟩⟩
  · have old : ∀ {m : Nat} {dm : D}, m ≠ i → (Γ.set i (.own d))[m]? = some (.own dm) → (σ.set i (some (.ref a)))[m]? = some (some (.ref b)) → Γ[m]? = some (.own dm) ∧ σ[m]? = some (some (.ref b)) := fun {m dm} hm q1 q2 => by
      rw [List.getElem?_set_ne (Ne.symm hm)] at q1 q2
      exact ⟨q1, q2⟩
    have new : ∀ {m : Nat}, m = i → (σ.set i (some (.ref a)))[m]? = some (some (.ref b)) → b = a := fun {m} hm q => by
      subst hm
      by_cases hk : m < σ.length
      · rw [List.getElem?_set_self hk] at q; cases q; rfl
      · rw [List.getElem?_eq_none (by simpa using hk)] at q; cases q
    by_cases hj : j = i
    · by_cases hk : k = i
      · rw [hj, hk]
      · have eb := new hj h3
        obtain ⟨q1, q2⟩ := old hk h2 h4
        rw [eb] at q2
        exact absurd (.inr (.inr ⟨k, _, q1, q2⟩)) nOw
    · by_cases hk : k = i
      · have eb := new hk h4
        obtain ⟨q1, q2⟩ := old hj h1 h3
        rw [eb] at q2
        exact absurd (.inr (.inr ⟨j, _, q1, q2⟩)) nOw
      · obtain ⟨q1, q2⟩ := old hj h1 h3
        obtain ⟨q3, q4⟩ := old hk h2 h4
        exact R.dist j k _ _ b q1 q3 q2 q4
  · by_cases hj : j = i
    · subst hj
      by_cases hk : j < Γ.length
      · rw [List.getElem?_set_self hk] at h; cases h
      · rw [List.getElem?_eq_none (by simpa using hk)] at h; cases h
    · rw [List.getElem?_set_ne (Ne.symm hj)] at h
      obtain ⟨u, h1, h2⟩ := R.val j fr' d' h
      refine ⟨u, by rw [List.getElem?_set_ne (Ne.symm hj)]; exact h1, Rep.move _ h2 (fun b hb z => ?_) (fun b o hb n => e.keep b o hb fun z => n (.inl (.inl z))) e.tup⟩
      rcases z with z | z
      · rcases ow_setOwn R.len z with z | z
        · exact .inl z
        · rw [z] at hb; exact absurd hn hb
      · exact .inr z
  · by_cases hj : j = i
    · subst hj
      have hk : j < Γ.length := by
        rcases Nat.lt_or_ge j Γ.length with hk | hk
        · exact hk
        · rw [List.getElem?_eq_none (by simpa using hk)] at h; cases h
      rw [List.getElem?_set_self hk] at h
      cases h
      refine ⟨a, List.getElem?_set_self (by rw [← R.len]; exact hk), ?_, fun z => nOw (.inl z), fun z => nOw (.inr (.inl z)), ht.move (fun _ h => h) (fun b hb z => ?_) (fun _ _ h _ => h) fun _ _ h => h⟩
      · cases q : C.H0 a with
        | none => rfl
        | some o => exact absurd hn (R.ext.dom a (by rw [q]; simp))
      · rcases z with z | z
        · rcases ow_setOwn R.len z with z | z
          · exact .inl (.inl z)
          · exact .inr z
        · exact .inl (.inr z)
    · rw [List.getElem?_set_ne (Ne.symm hj)] at h
      obtain ⟨a', h1, h2, h3, h4, h5⟩ := R.own j d' h
      refine ⟨a', by rw [List.getElem?_set_ne (Ne.symm hj)]; exact h1, h2, h3, h4, h5.move (fun o ho => e.keep a' o ho h3) (fun b hb z => ?_) (fun b o hb n => e.keep b o hb fun z => n (.inl (.inl z))) e.tup⟩
      rcases z with z | z
      · rcases ow_setOwn R.len z with z | z
        · exact .inl z
        · rw [z] at hb; exact absurd hn hb
      · exact .inr z
end
section
variable {X : Cx} {ω : Type} {C : Cn ω}
/-- x = a + b, lists whose items may be known elsewhere; x owns the new list -/
def ownCatM (i : Nat) (ta tb : EM C) : SM C := fun E Γ w => ta Γ w fun m1 d1 w1 => tb Γ w1 fun m2 d2 w2 => ∃ a b, d1 = .lst a ∧ d2 = .lst b ∧ a.length + b.length ≤ 1000000 ∧ (m1.item.max m2.item).le .PF = true ∧ E.nx (Γ.set i (.own (.lst (a ++ b)))) w2
theorem vownCat {st : Stmt} {ta tb : EM C} (i : Nat) (hp : PS X st (tAsg (tOp (rAdd4 X.K) (lE C ta) (lE C tb)) (gName i))) : VS1 X C st (ownCatM i ta tb) :=
  PSimp hp fun D σ H ⟨Z, Γ, w, E0, R, ht, o⟩ => ⟨Z, Γ, w, _, R, ht, fun m1 d1 w1 v1 H1 h1 e1 wr1 r1 => ⟨Z, Γ, w1, _, R.step e1 wr1, h1, fun m2 d2 w2 v2 H2 h2 e2 wr2 r2 => by
    obtain ⟨a, b, rfl, rfl, hl, hm, h2⟩ := h2
    have B := R.bs.ext (e1.trans e2)
    have r1' := r1.ext (R.bs.ext e1) e2
    have r2' := r2.start (Hs := H) e1.dom
    obtain ⟨l1, u1, f1, g1, q1⟩ := r1'.lst
    obtain ⟨l2, u2, f2, g2, q2⟩ := r2'.lst
    have hok := Md.max_ok _ _ (Md.item_ok m1) (Md.item_ok m2)
    have q1' := (q1.le B (Md.le_max_left _ _ hok) hok).le B hm rfl
    have q2' := (q2.le B (Md.le_max_right _ _ hok) hok).le B hm rfl
    refine .inr (.inr (.inl ⟨l1, l2, u1, u2, f1, f2, g1, g2, by rw [q1.length, q2.length]; exact le6 hl, fun p hp => ?_⟩))
    have e12 := e1.trans e2
    have R2 := (R.step e1 wr1).step e2 wr2
    obtain ⟨R3, F3⟩ := R.setOwnP (i := i) (w' := w2) (e12.trans (.same (same_new hp))) (R2.wsame (same_new hp)) (d := .lst (a ++ b)) rfl (RepM.newL hp B (md := .PF) rfl (q1'.append q2')) fun a' ea => by
      cases ea
      cases q : H p with
      | none => rfl
      | some o => exact absurd hp (e12.dom p (by rw [q]; simp))
    exact o.nx _ _ _ _ h2 R3 F3⟩⟩
end
end VS

set_option maxHeartbeats 2000000
namespace VS
open PySem PySem.Spec PyProof.Rows L2
/-! ### several except clauses, each with the same name -/
abbrev Cls1 := Value × (Addr → Value → Option Addr → TS)
inductive HdA (X : Cx) (n : Str) : List ExceptHandler → List Cls1 → Prop
  | last : HdA X n [] []
  | more {x : Str} {c : Value} {ts : Addr → Value → Option Addr → TS} {b₀ : Stmt} {su : List Stmt} {np pos : Pos} {hds : List ExceptHandler} {l : List Cls1} (hc : Names X x c)
      (hsu : ∀ (a : Addr) (oe : Obj) (cls : Value) (d : Option Addr) (pn : List (Addr × Obj)), Zc cls d oe → (∃ vs, oe.data = .fields vs) → PSs (X.suite a ((a, oe) :: pn)) (b₀ :: su) (ts a cls d)) (r : HdA X n hds l) :
      HdA X n (.ExceptHandler (some (.Name x np)) (some n) (b₀ :: su) pos :: hds) ((c, ts) :: l)
/-- the ends of a suite: the name is gone behind it -/
def offE (i : Nat) (D : Ends) : Ends := { nx := fun σ H => D.nx (σ.set i none) H, rt := D.rt, bk := fun σ H => D.bk (σ.set i none) H, ct := fun σ H => D.ct (σ.set i none) H }
def wA (K : PySem.W.Frag) (i : Nat) (Wout : WX) (D : Ends) : List Cls1 → WX
  | [] => Wout
  | (c, ts) :: r => fun cls d σ H => ∃ b, PySem.W.exmOne K cls c = some b ∧ (b = true → ∀ a, H a = none → ts a cls d (offE i D) (σ.set i (some (.ref a))) H) ∧ (b = false → wA K i Wout D r cls d σ H)
section
variable {X : Cx} {n : Str} {i : Nat} {Wout : WX} {D : Ends}
/-- where the exception's object may not lie -/
theorem off_frames {B : Heap} {a : Addr} {cls : Value} {d : Option Addr} {h : Heap} (fl : HandSPX.FlyingZ B (X.env :: X.outer) a (Zc cls d) h) (hf : X.env.frame = some X.env.locals) : ∃ (oe : Obj) (vs : Array Value), h.get? a = some oe ∧ Zc cls d oe ∧ oe.data = .fields vs ∧ a ≠ X.env.locals ∧ a ∉ X.fs := by
  obtain ⟨oe, vs, he, hz, hd⟩ := fl.there
  have no : a ∉ frs (X.env :: X.outer) := fun hm => by
    obtain ⟨_, o, e, hn⟩ := fl.2.2.1.mem hm
    rw [he] at e; cases e
    exact hn _ hd
  refine ⟨oe, vs, he, hz, hd, fun z => no (List.mem_filterMap.mpr ⟨X.env, List.mem_cons_self, by rw [hf, z]⟩), fun hm => ?_⟩
  obtain ⟨e, h1, h2⟩ := List.mem_filterMap.mp hm
  exact no (List.mem_filterMap.mpr ⟨e, List.mem_cons_of_mem _ h1, h2⟩)
theorem handA (hs : X.stack = X.env :: X.outer) (hf : X.env.frame = some X.env.locals) (hN : X.N.Nodup) (hi : X.N[i]? = some n) (hln : X.env.kindOf n = some .local) (tk : Takes X Wout)
    {a : Addr} {B h : Heap} {sI s : Shared} {pins : List (Addr × Obj)} {σ : L2.St} {H : Hp} {cls : Value} {d : Option Addr} (J : Inv X pins σ H sI) (nb : ∀ b o, sI.heap.get? b = some o → b ∉ frs X.stack → B.get? b = some o)
    (fl : HandSPX.FlyingZ B (X.env :: X.outer) a (Zc cls d) h) (up : sI.heap.UpToSlots h) (os : s.os = sI.os) (ag : AllBare s.gens) (na : H a = none) {hds : List ExceptHandler} {l : List Cls1} (hk : HdA X n hds l) :
    wA X.K i Wout D l cls d σ H → wpAny (model X.prog X.w) X.A (handleBy (.ref a) X.env hds) (SP X pins D) X.xe { s with heap := h } := by
  have ok := J.ok
  have J3 : Inv X pins σ H { s with heap := h } := J.landed nb fl.1 up os ag
  obtain ⟨oe, vs, he, hz, hd, nL, nF⟩ := off_frames fl hf
  have S3 := J3.suite he hd na nL nF
  have LT : PySem.W.Looks (model X.prog X.w) h (typeOf (.ref a)) cls := fun A Q E s k q => wpAny_typeOf_ref (k _ _ he) (by rw [hz.1]; exact q)
  induction hk with
  | last =>
    intro w
    refine wpAny_handleBy_nil ?_
    obtain ⟨_, _, _, o2, v2, T, oT, t2, g1, _, g3, g4, _⟩ := id fl
    unfold PySem.passOn
    refine wpAny_bind (wpAny_field g1 g3 g4 ?_)
    rw [if_neg (show ¬ ((Value.ref T == Value.none) = true) by simp)]
    have fin : wpAny (model X.prog X.w) X.A (setFlight (.ref a) X.env.frame) (fun _ s4 => wpAny (model X.prog X.w) X.A (throw (.ref a) : Sem Flow) (SP X pins D) X.xe s4) X.xe { s with heap := h } := by
      rw [hf]
      exact HandSPX.setFlight_upZ fl fun h4 q4 up4 => wpAny_throw (tk _ _ ⟨a, B, sI, pins, σ, H, cls, d, rfl, J, nb, up.trans up4, .inr (.inr (by rw [hs]; exact q4)), na, os, ag, w⟩)
    first
      | exact wpAny_bind (wpAny_pure (wpAny_bind fin))
      | exact wpAny_bind fin
  | @more x c ts b₀ su np pos hds l hc hsu r ih =>
    rintro ⟨b, hb, hyes, hno⟩
    have nmd : ∀ {Q : Value → Shared → Prop} {E : Value → Shared → Prop}, Q c { s with heap := h } → wpAny (model X.prog X.w) (X.A.mark (some (.ref a))) (eval (.Name x np) X.env) Q E { s with heap := h } := fun q => by
      obtain ⟨hg, hdb, hm | ⟨hm, hv, hn⟩⟩ := hc
      · exact ld_glob (X := X.suite a ((a, oe) :: (X.pn ++ pins))) S3 hg hm q hdb
      · exact ld_blt (X := X.suite a ((a, oe) :: (X.pn ++ pins))) S3 hg hm hv q hn hdb
    refine wpAny_handleBy_cons (codeAny_handlers_test (nmd ((PySem.W.exm_one (M := model X.prog X.w) J3.kIn LT hb).here ?_))) (by intro q; cases q)
    cases b with
    | false => exact ih (hno rfl)
    | true =>
      refine codeAny_handlers_suite_as (HandSPX.lands_againZ fl fun h4 fl4 up4 => ?_)
      have J4 : Inv X pins σ H { s with heap := h4 } := J.landed nb fl4.1 (up.trans up4) os ag
      obtain ⟨oe4, vs4, he4, hz4, hd4, _, _⟩ := off_frames fl4 hf
      have S4 := J4.suite he4 hd4 na nL nF
      refine store_ok (X := X.suite a ((a, oe4) :: (X.pn ++ pins))) (v := .ref a) S4 hN hi (.inl hln) rfl (fun s5 S5 => ?_) (.inr hln)
      refine wpAny_mono ((hsu a oe4 cls d (X.pn ++ pins) hz4 ⟨_, hd4⟩).run [] s5 _ H _ S5 (hyes rfl a na)) (fun f s6 hsp => ?_) (fun _ _ z => False.elim z)
      have off : ∀ {σ6 : L2.St} {H6 : Hp} {Q : Shared → Prop}, Inv (X.suite a ((a, oe4) :: (X.pn ++ pins))) [] σ6 H6 s6 → (∀ s7, Inv X pins (σ6.set i none) H6 s7 → Q s7) →
          wpAny (model X.prog X.w) X.A (do bindName X.env n .none; unbindBehindTheSuite X.env n pos) (fun _ s7 => Q s7) X.xe s6 := fun S6 hq => gone_ok (S6.unsuite ok) hN hi hln hq
      cases f with
      | ret u =>
        obtain ⟨v6, σ6, H6, S6, r6, q6⟩ := hsp
        exact off S6 fun s7 J7 => ⟨_, _, _, J7, r6, q6⟩
      | next =>
        obtain ⟨σ6, H6, S6, q6⟩ := hsp
        exact off S6 fun s7 J7 => ⟨_, _, J7, q6⟩
      | brk =>
        obtain ⟨σ6, H6, S6, q6⟩ := hsp
        exact off S6 fun s7 J7 => ⟨_, _, J7, q6⟩
      | cont =>
        obtain ⟨σ6, H6, S6, q6⟩ := hsp
        exact off S6 fun s7 J7 => ⟨_, _, J7, q6⟩
theorem ps_tryA {body : List Stmt} {h₀ : ExceptHandler} {hds : List ExceptHandler} {l : List Cls1} {pos : Pos} {tb : WX → TS} (hs : X.stack = X.env :: X.outer) (hf : X.env.frame = some X.env.locals) (hN : X.N.Nodup) (hi : X.N[i]? = some n) (hln : X.env.kindOf n = some .local) (tk : Takes X Wout)
    (hb : ∀ (W : WX) (pn : List (Addr × Obj)) (xe : Value → Shared → Prop), Takes (X.tr pn xe) W → PassesOwn (model X.prog X.w) X.A X.env xe → PSs (X.tr pn xe) body (tb W))
    (hh : HdA X n (h₀ :: hds) l) : PS X (.Try body (h₀ :: hds) [] [] pos) (fun D σ H => tb (wA X.K i Wout D l) D σ H) := by
  refine ⟨fun pins s σ H D I h => ?_⟩
  have ok := I.ok
  have hfr : X.A.frames = some (X.env :: X.outer) := by rw [ok.frames, hs]
  refine wpAny_Try_except (wpAny_mono ((hb (wA X.K i Wout D l) (X.pn ++ pins) (fun e s₁ => wpAny (model X.prog X.w) X.A (noteFrame e X.env) (fun _ s₂ => wpAny (model X.prog X.w) X.A (setFlight e none) (fun _ s₃ =>
    wpAny (model X.prog X.w) X.A (handleBy e X.env (h₀ :: hds)) (SP X pins D) X.xe s₃) X.xe s₂) X.xe s₁) (fun u s' xx => ?_) PassesOwn.looking).run [] s σ H D (I.toTry _) h) (fun f s1 hsp => ?_) (fun e s1 he => he))
  · obtain ⟨a, B, sI, pins', σ', H', cls, d, rfl, J', nb, up, sky, na, os, ag, w⟩ := xx
    refine Sky.land Zc.steady hfr hf (by rw [← hs]; exact sky : Sky B (X.env :: X.outer) a (Zc cls d) X.env.locals s'.heap) fun h3 fl3 up3 => ?_
    exact handA hs hf hN hi hln tk (J'.ofTry ok) nb fl3 (up.trans up3) os ag na hh w
  · cases f with
    | next =>
      obtain ⟨σ', H', J', q⟩ := hsp
      exact wpAny_execs_nil ⟨σ', H', J'.ofTry ok, q⟩
    | ret u =>
      obtain ⟨v, σ', H', J', r, q⟩ := hsp
      exact ⟨v, σ', H', J'.ofTry ok, r, q⟩
    | brk =>
      obtain ⟨σ', H', J', q⟩ := hsp
      exact ⟨σ', H', J'.ofTry ok, q⟩
    | cont =>
      obtain ⟨σ', H', J', q⟩ := hsp
      exact ⟨σ', H', J'.ofTry ok, q⟩
end
/-! try: f(..) except C1 as e: .. except C2 as e: .. -/
section
variable {X : Cx} {A0 : Addr → Prop} {H0 : Hp} {hA : ∀ b, A0 b → H0 b ≠ none} {i : Nat} {cl : List Str} {n k : Nat} {frs : List Bool} {P0 : PX} {ts : AM (pureC A0 H0 hA)} {th1 th2 : HM} {c1 c2 en f : Str} {Wout : WX} {e : Expr} {es : List Expr} {b₀ b1 : Stmt} {su su2 : List Stmt} {p p2 p3 p4 p5 np np2 pos : Pos} {ps : List Str}
def two (c1 : Str) (th1 th2 : HM) : HM := fun H x a => if exSub x.cls c1 = true then th1 H x a else th2 H x a
theorem wish2_ok {Z : Addr → Prop} {Γ : List Sl} {σ : L2.St} {H H1 : Hp} {E0 : EndM (pureC A0 H0 hA)} {Dn : Ends} (T : Try2K X.K X.mg c1 c2 cl) (R : Rel (pureC A0 H0 hA) Z Γ () σ H) (hn : nOwn Γ = true) (e1 : Ext (fun _ => False) H H1) (o : Ok (pureC A0 H0 hA) Z Γ σ H E0 Dn)
    {x : Xn} {cls : Value} {d : Option Addr} {H' : Hp} (hk : tryH (fun d => E0.rt d ()) i cl (two c1 th1 th2) Γ x) (hx : XAt X.mg H1 x cls d H') : wA X.K i Wout Dn [(.ref (adr X.mg c1), hTS X.mg cl th1), (.ref (adr X.mg c2), hTS X.mg cl th2)] cls d σ H' := by
  obtain ⟨hcl, hk⟩ := hk
  obtain ⟨D, hD, hm1, hm2⟩ := T.ct _ hcl
  have hc2 : cls = .ref D := by obtain ⟨D', h1, h2, _⟩ := hx; rw [hD] at h1; cases h1; exact h2
  have sm : Same H1 H' := by obtain ⟨_, _, _, h, _⟩ := hx; exact h
  have eH : Ext (fun _ => False) H H' := e1.trans (.same sm)
  have RH : Rel (pureC A0 H0 hA) Z Γ () σ H' := R.step (w' := ()) eH trivial
  have go : ∀ (th : HM) (a : Addr), (th H' x a) ⟨fun _ _ => False, fun d _ => d.flat = true ∧ E0.rt d (), fun _ _ => False, fun _ _ => False⟩ (Γ.set i (.val true (.ref a))) () → hTS X.mg cl th a cls d (offE i Dn) (σ.set i (some (.ref a))) H' := fun th a h =>
    ⟨x, H', hx.xin, hcl, fun _ => False, Γ.set i (.val true (.ref a)), (), _, (RH.restart hn).setVal (v := .ref a) rfl, h, ⟨fun _ _ _ _ h _ _ => h.elim, fun _ _ _ _ h _ _ => h.elim, fun _ _ _ _ h _ _ => h.elim, fun dd w' v H2 h g _ r => o.rt dd () v H2 h.2 ((R.ext.trans eH).trans (g.mono fun _ z => z)) trivial (Rep.flat dd h.1 r)⟩⟩
  subst hc2
  refine ⟨_, hm1, fun z a _ => go th1 a ?_, fun z => ⟨true, hm2 z, fun _ a _ => go th2 a ?_, fun h => by cases h⟩⟩
  · have := hk H' a
    unfold two at this
    rw [if_pos z] at this; exact this
  · have := hk H' a
    unfold two at this
    rw [if_neg (by rw [z]; decide)] at this; exact this
theorem vtry2E (T : Try2K X.K X.mg c1 c2 cl) (hs : X.stack = X.env :: X.outer) (hfr : X.env.frame = some X.env.locals) (hN : X.N.Nodup) (hi : X.N[i]? = some en) (hln : X.env.kindOf en = some .local) (tk : Takes X Wout)
    (F : FnC X.prog X.w X.K X.mg X.base f k ps (spX X.mg n frs P0)) (hr : Room k X.A) (ha : ∀ pn xe, VA (X.tr pn xe) (pureC A0 H0 hA) (e :: es) ts)
    (hsu : ∀ (a : Addr) (oe : Obj) (cls : Value) (d : Option Addr) (pn : List (Addr × Obj)) (x : Xn) (H1 : Hp), Zc cls d oe → (∃ vs, oe.data = .fields vs) → XIn X.mg x cls d H1 → x.cls ∈ cl → VSs (X.suite a ((a, oe) :: pn)) (nC H1) (b₀ :: su) (th1 H1 x a))
    (hsu2 : ∀ (a : Addr) (oe : Obj) (cls : Value) (d : Option Addr) (pn : List (Addr × Obj)) (x : Xn) (H1 : Hp), Zc cls d oe → (∃ vs, oe.data = .fields vs) → XIn X.mg x cls d H1 → x.cls ∈ cl → VSs (X.suite a ((a, oe) :: pn)) (nC H1) (b1 :: su2) (th2 H1 x a))
    (hg1 : Gl X c1 := by rfl) (hg2 : Gl X c2 := by rfl) (hd1 : (c1 == ("__debug__" : Str)) = false := by decide) (hd2 : (c2 == ("__debug__" : Str)) = false := by decide)
    (hg : Gl X f := by rfl) (hdb : (f == ("__debug__" : Str)) = false := by decide) (hsw : ∀ pn xe, swapsWith (.Call (.Name f p) (e :: es) [] p2) none p3.line (X.tr pn xe).env = pure false := by intro _ _; rfl)
    (he : starEach (e :: es) X.env = (false, eval e X.env) :: starEach es X.env := by rfl) (hpl : (backTo p2 (starEach es X.env)).any (·.1) = false := by rfl) :
    VS1 X (pureC A0 H0 hA) (.Try [.Expr (.Call (.Name f p) (e :: es) [] p2) p3] [.ExceptHandler (some (.Name c1 np)) (some en) (b₀ :: su) p4, .ExceptHandler (some (.Name c2 np2)) (some en) (b1 :: su2) p5] [] [] pos) (tryE i cl n frs P0 ts (two c1 th1 th2)) := by
  obtain ⟨ff, fd, hm, hk, hB, F⟩ := F
  refine PSimp (ps_tryA (n := en) (i := i) (l := [(.ref (adr X.mg c1), hTS X.mg cl th1), (.ref (adr X.mg c2), hTS X.mg cl th2)]) hs hfr hN hi hln tk (fun W pn xe tkW _ => pss_one (ps_expr (pe_callS (X := X.tr pn xe) F hr hg hm hk hB (fun σ => passAt tkW σ) (ha pn xe) hdb he hpl) (hsw pn xe)))
    (.more ⟨hg1, hd1, .inl T.h1⟩ (fun a oe cls d pn hz hf => ⟨fun pins s σ H D I ⟨x, H1, hx, hcl, h⟩ => (hsu a oe cls d pn x H1 hz hf hx hcl).run pins s σ H D I h⟩)
      (.more ⟨hg2, hd2, .inl T.h2⟩ (fun a oe cls d pn hz hf => ⟨fun pins s σ H D I ⟨x, H1, hx, hcl, h⟩ => (hsu2 a oe cls d pn x H1 hz hf hx hcl).run pins s σ H D I h⟩) .last))) fun D σ H ⟨Z, Γ, w, E0, R, ⟨hn, ht⟩, o⟩ => ?_
  refine ⟨Z, Γ, w, _, R, ht, fun ps w1 vs H1 h1 e1 wr1 r1 => ?_⟩
  obtain ⟨hl, hf, h1⟩ := h1
  have B := R.bs.ext e1
  exact ⟨fun b => H b ≠ none, ps.map (·.2), _, _, fun b h => e1.dom b h, by simpa using hl, args_ok B (fun _ z => z.elim) r1 hf, h1, fun d v H' hd g r => o.nx _ _ _ _ hd (R.step (w' := ()) (e1.trans (.same g)) trivial) (.of_ext (e1.trans (.same g))), fun x cls d H' hk hx => wish2_ok T R hn e1 o hk hx⟩
end
end VS

namespace VS
open PySem PySem.Spec PyProof.Rows L2
/-! ### an object made in a def that may raise -/
section
variable {X : Cx} {ω : Type} {C : Cn ω}
theorem vmkX {Cc : Addr} {P : IPD} {st : Stmt} {rest : List Stmt} {m : ∀ (o : Oj) (C' : Cn OW), SM C'} (i ib : Nat) (hp : PS X st (tAsg (tMake Cc (spI Cc P) [] E0 (tCons (tVar ib) tNil)) (gName i)))
    (hr : ∀ (o : Oj) (C' : Cn OW) (hl pl : Addr), IsO C' Cc o hl pl → (∀ b, C'.W b → ¬ C'.A0 b) → (∀ H1, Ext C'.W C'.H0 H1 → Ext C.W C.H0 H1) → VSs X C' rest (m o C')) : VSs X C (st :: rest) (mkM i ib P m) := by
  refine PSsimp (pss_cons hp (t := _) (u := fun Dn σ H' => ∃ (o : Oj) (C' : Cn OW) (hl pl : Addr) (hO : IsO C' Cc o hl pl) (hn : ∀ b, C'.W b → ¬ C'.A0 b) (hE : ∀ H1, Ext C'.W C'.H0 H1 → Ext C.W C.H0 H1), lS C' (m o C') Dn σ H') ⟨fun pins s' σ H' Dn I ⟨o, C', hl, pl, hO, hn, hE, q⟩ => (hr o C' hl pl hO hn hE).run pins s' σ H' Dn I q⟩) ?_
  rintro Dn σ H ⟨Z, Γ, w, E0, R, ⟨fr, bk, hb, hfl, hll, hno, ht⟩, ok⟩
  obtain ⟨bv, hv, rv⟩ := R.val ib fr bk hb
  refine ⟨bv, hv, fun x dx hx hdx hne => ?_⟩
  have hH1 : ∀ b u, H b = some u → upd (upd H dx (.own x)) x (.ins Cc dx []) b = some u := fun b u h => by
    rw [upd_ne (ne_of_none h hx), upd_ne (ne_of_none h hdx)]; exact h
  have hs : Same H (upd (upd H dx (.own x)) x (.ins Cc dx [])) := fun b u h => hH1 b u h
  refine ⟨x, dx, bv, bk, _, rfl, upd_same, hfl, Rep.flat _ hfl (Rep.move bk (Rep.flat _ hfl rv : Rep H bk (fun _ => False) bv) (fun _ _ z => z) (fun b u h _ => hH1 b u h) fun b u h => hH1 b _ h), ht, fun o w1 hl pl H' ho hk hlp h1 h2 hkeep hoa hwr => ⟨rfl, ?_⟩⟩
  have hxx : upd (upd H dx (.own x)) x (.ins Cc dx []) x ≠ none := by rw [upd_same]; simp
  have fresh : ∀ c, upd (upd H dx (.own x)) x (.ins Cc dx []) c = none → H c = none := fun c h => by
    cases q : H c with
    | none => rfl
    | some u => rw [hH1 c u q] at h; cases h
  have hk2 : ∀ b u, H b = some u → H' b = some u := fun b u h => hkeep b u (hH1 b u h) (ne_of_none h hx)
  have e2 : Same H H' := fun b u h => hk2 b u h
  have dom2 : ∀ b, H b ≠ none → H' b ≠ none := fun b h => by
    cases q : H b with
    | none => exact absurd q h
    | some u => rw [hk2 b u q]; simp
  have hA : ∀ b, C.A0 b → H' b ≠ none := fun b z => dom2 b (R.ext.dom b (C.hA b z))
  have n1 : H' hl ≠ none := by rw [hwr.1]; simp
  have n2 : H' pl ≠ none := by rw [hwr.2]; simp
  have fh := fresh hl h1
  have fp := fresh pl h2
  have goE : ∀ H1, Ext (fun b => b = hl ∨ b = pl) H' H1 → Ext C.W C.H0 H1 := fun H1 e => by
    refine ⟨fun b h => e.dom b (dom2 b (R.ext.dom b h)), fun b u h n => ?_, fun b u h => e.tup b u (hk2 b _ (R.ext.tup b u h))⟩
    have q2 := R.ext.keep b u h n
    refine e.keep b u (hk2 b u q2) fun z => ?_
    rcases z with z | z
    · rw [z, fh] at q2; cases q2
    · rw [z, fp] at q2; cases q2
  refine ⟨o, objC x hl pl C.A0 H' hA n1 n2, hl, pl, ⟨hlp, fun _ => Iff.rfl, fun _ _ => Iff.rfl, hoa, by rw [ho]; exact hfl, ?_⟩, ?_, fun H1 e => goE H1 e, fun _ => False, Γ.set i (.val true (.ref x)), w1, ⟨fun _ _ => False, fun d _ => E0.rt d w, fun _ _ => False, fun _ _ => False⟩, ?_, hk (objC x hl pl C.A0 H' hA n1 n2), ⟨fun _ _ _ _ z _ _ => z.elim, fun _ _ _ _ z _ _ => z.elim, fun _ _ _ _ z _ _ => z.elim, fun d w' v H'' hd e wr r => ?_⟩⟩
  · rintro (z | z)
    · exact hxx (by rw [show x = hl from z] at h1 ⊢; exact h1)
    · exact hxx (by rw [show x = pl from z] at h2 ⊢; exact h2)
  · rintro b (z | z) q
    · subst z; exact R.ext.dom b (C.hA b q) fh
    · subst z; exact R.ext.dom b (C.hA b q) fp
  · have ow : ∀ b, Ow (objC x hl pl C.A0 H' hA n1 n2) (fun _ => False) (Γ.set i (.val true (.ref x))) (σ.set i (some (.ref x))) b → b = hl ∨ b = pl := fun b z => by
      rcases z with z | z | ⟨j, d, q1, q2⟩
      · exact z
      · exact z.elim
      · by_cases hj : j = i
        · subst hj
          by_cases hk : j < Γ.length
          · rw [List.getElem?_set_self hk] at q1; cases q1
          · rw [List.getElem?_eq_none (by simpa using hk)] at q1; cases q1
        · rw [List.getElem?_set_ne (Ne.symm hj)] at q1
          exact absurd q1 (noOwn_not hno)
    have now : ∀ (j : Nat) (d : D), (Γ.set i (.val true (.ref x)))[j]? ≠ some (.own d) := fun j d q1 => by
      by_cases hj : j = i
      · subst hj
        by_cases hk : j < Γ.length
        · rw [List.getElem?_set_self hk] at q1; cases q1
        · rw [List.getElem?_eq_none (by simpa using hk)] at q1; cases q1
      · rw [List.getElem?_set_ne (Ne.symm hj)] at q1
        exact absurd q1 (noOwn_not hno)
    refine ⟨by simp [R.len], hwr, .refl _ _, fun _ z => z.elim, fun _ z => z.elim, fun j k dj dk a q => absurd q (now j dj), fun j fr' d q => ?_, fun j d q => absurd q (now j d)⟩
    by_cases hj : j = i
    · subst hj
      by_cases hk : j < Γ.length
      · rw [List.getElem?_set_self hk] at q
        cases q
        exact ⟨.ref x, List.getElem?_set_self (by rw [← R.len]; exact hk), rfl⟩
      · rw [List.getElem?_eq_none (by simpa using hk)] at q; cases q
    · rw [List.getElem?_set_ne (Ne.symm hj)] at q
      obtain ⟨u, q1, q2⟩ := R.val j fr' d q
      refine ⟨u, by rw [List.getElem?_set_ne (Ne.symm hj)]; exact q1, Rep.move d q2 (fun b hb z => ?_) (fun b u h _ => hk2 b u h) fun b u h => hk2 b _ h⟩
      rcases z with z | z
      · rcases ow b z with z | z
        · subst z; exact absurd fh hb
        · subst z; exact absurd fp hb
      · exact .inr z
  · have e' : Ext (fun b => b = hl ∨ b = pl) H' H'' := e
    have e3 : Same H H'' := fun b u h => e'.keep b u (hk2 b u h) fun z => by
      rcases z with z | z
      · subst z; rw [fh] at h; cases h
      · subst z; rw [fp] at h; cases h
    exact ok.rt _ _ _ _ hd (R.ext.trans (.same e3)) (R.wsame e3) r

theorem out_ob {Kx : Xn → Prop} {E0 : XK} {C' : Cn OW} (h : Out X C Kx E0) (hE : ∀ H1, Ext C'.W C'.H0 H1 → Ext C.W C.H0 H1) : Out X C' Kx E0 := ⟨h.1, h.2.1, fun x cls d H1 H' hk e hx => h.2.2 x cls d H1 H' hk (hE H1 e) hx⟩
end
end VS

namespace VS
open PySem PySem.Spec PyProof.Rows L2
/-! ### the lists of a new tuple, known by their places: x[0].append(..) -/
abbrev RgW (ω : Type) := ω × Option (List (List Int)) × Nat
def lstAt (H : Hp) : List Addr → List (List Int) → Prop
  | [], ls => ls = []
  | a :: as, ls => ∃ l r, ls = l :: r ∧ H a = some (.lst (l.map V.int)) ∧ lstAt H as r
theorem lstAt_mono {H H' : Hp} : ∀ {as : List Addr} {ls : List (List Int)}, lstAt H as ls → (∀ a ∈ as, H' a = H a) → lstAt H' as ls
  | [], _, h, _ => h
  | a :: as, _, ⟨l, r, e, h1, h2⟩, k => ⟨l, r, e, by rw [k a (List.mem_cons_self ..)]; exact h1, lstAt_mono h2 fun b hb => k b (List.mem_cons_of_mem _ hb)⟩
theorem lstAt_get {H : Hp} : ∀ {as : List Addr} {ls : List (List Int)} {k : Nat} {a : Addr} {l : List Int}, lstAt H as ls → as[k]? = some a → ls[k]? = some l → H a = some (.lst (l.map V.int))
  | [], _, k, a, l, h, e, _ => by simp at e
  | b :: as, _, 0, a, l, ⟨l', r, rfl, h1, h2⟩, e, e2 => by
    simp at e e2; subst e e2; exact h1
  | b :: as, _, k + 1, a, l, ⟨l', r, rfl, h1, h2⟩, e, e2 => lstAt_get (k := k) h2 (by simpa using e) (by simpa using e2)
structure IsRg {ω : Type} (C : Cn (RgW ω)) (as : List Addr) : Prop where
  w : ∀ a ∈ as, C.W a
  at_ : ∀ w H ls, C.wr w H → w.2.1 = some ls → lstAt H as ls
  ls : ∀ w H a, C.wr w H → a ∈ as → ∃ vs, H a = some (.lst vs) ∧ vs.length ≤ w.2.2
  put : ∀ w H a vs, C.wr w H → a ∈ as → vs.length ≤ w.2.2 + 1 → C.wr (w.1, none, w.2.2 + 1) (upd H a (.lst vs))
def regC {ω : Type} (C : Cn ω) (as : List Addr) (H0 : Hp) (hA : ∀ b, C.A0 b → H0 b ≠ none) (hW : ∀ b, C.W b → H0 b ≠ none) (has : ∀ a ∈ as, H0 a ≠ none) : Cn (RgW ω) where
  W := fun b => C.W b ∨ b ∈ as
  wr := fun w H => C.wr w.1 H ∧ (∀ ls, w.2.1 = some ls → lstAt H as ls) ∧ ∀ a ∈ as, ∃ vs, H a = some (.lst vs) ∧ vs.length ≤ w.2.2
  fr := fun w H H' h q => ⟨C.fr w.1 H H' (fun b hb => h b (.inl hb)) q.1, fun ls e => lstAt_mono (q.2.1 ls e) fun a ha => h a (.inr ha), fun a ha => by rw [h a (.inr ha)]; exact q.2.2 a ha⟩
  A0 := C.A0
  H0 := H0
  hA := hA
  hW := fun b hb => hb.elim (hW b) (has b)
  hdl := C.hdl
section
variable {ω : Type} {C : Cn ω} {Z : Addr → Prop} {Γ : List Sl} {w w1 : ω} {σ : L2.St} {H H1 : Hp} {d' : D} {v : V} {i : Nat} {as : List Addr}
theorem regC_is {hA : ∀ b, C.A0 b → H1 b ≠ none} {hW : ∀ b, C.W b → H1 b ≠ none} {has : ∀ a ∈ as, H1 a ≠ none} (hd : ∀ a ∈ as, ¬ C.W a) : IsRg (regC C as H1 hA hW has) as where
  w := fun a h => .inr h
  at_ := fun w H ls h e => h.2.1 ls e
  ls := fun w H a h e => h.2.2 a e
  put := fun w H a vs h ha hl => ⟨C.fr w.1 H _ (fun b hb => upd_ne fun z => hd a ha (by rw [← z]; exact hb)) h.1, fun ls e => (by cases e), fun b hb => by
    by_cases z : b = a
    · rw [z]; exact ⟨vs, upd_same, hl⟩
    · obtain ⟨us, q1, q2⟩ := h.2.2 b hb
      exact ⟨us, by rw [upd_ne z]; exact q1, Nat.le_succ_of_le q2⟩⟩
theorem reg_rel {x : Option (List (List Int)) × Nat} (R : Rel C Z Γ w σ H) (hno : noOwn Γ = true) (e1 : Ext C.W H H1) (hn : ∀ a ∈ as, H a = none) {hA : ∀ b, C.A0 b → H1 b ≠ none} {hW : ∀ b, C.W b → H1 b ≠ none} {has : ∀ a ∈ as, H1 a ≠ none}
    (wr : (regC C as H1 hA hW has).wr (w1, x) H1) (hd : d'.flat = true) (r : Rep H1 d' (fun _ => False) v) : Rel (regC C as H1 hA hW has) (fun _ => False) (Γ.set i (.val true d')) (w1, x) (σ.set i (some v)) H1 := by
  have now : ∀ (j : Nat) (d : D), (Γ.set i (.val true d'))[j]? ≠ some (.own d) := fun j d q1 => by
    by_cases hj : j = i
    · subst hj
      by_cases hk : j < Γ.length
      · rw [List.getElem?_set_self hk] at q1; cases q1
      · rw [List.getElem?_eq_none (by simpa using hk)] at q1; cases q1
    · rw [List.getElem?_set_ne (Ne.symm hj)] at q1
      exact absurd q1 (noOwn_not hno)
  have ow : ∀ b, Ow (regC C as H1 hA hW has) (fun _ => False) (Γ.set i (.val true d')) (σ.set i (some v)) b → C.W b ∨ b ∈ as := fun b z => by
    rcases z with z | z | ⟨j, d, q1, q2⟩
    · exact z
    · exact z.elim
    · exact absurd q1 (now j d)
  refine ⟨by simp [R.len], wr, .refl _ _, fun _ z => z.elim, fun _ z => z.elim, fun j k dj dk a q => absurd q (now j dj), fun j fr' d q => ?_, fun j d q => absurd q (now j d)⟩
  by_cases hj : j = i
  · subst hj
    by_cases hk : j < Γ.length
    · rw [List.getElem?_set_self hk] at q
      cases q
      exact ⟨v, List.getElem?_set_self (by rw [← R.len]; exact hk), Rep.flat _ hd r⟩
    · rw [List.getElem?_eq_none (by simpa using hk)] at q; cases q
  · rw [List.getElem?_set_ne (Ne.symm hj)] at q
    obtain ⟨u, q1, q2⟩ := R.val j fr' d q
    refine ⟨u, by rw [List.getElem?_set_ne (Ne.symm hj)]; exact q1, Rep.move d q2 (fun b hb z => ?_) (fun b u h n => e1.keep b u h fun z => n (.inl (.inl z))) e1.tup⟩
    rcases z with z | z
    · rcases ow b z with z | z
      · exact .inl (.inl z)
      · exact absurd (hn b z) hb
    · exact .inr z
theorem lls_at {O : Addr → Prop} : ∀ {ls : List (List Int)} {vs : List V}, RepAll H1 (ls.map fun l => .lst (l.map D.int)) O vs → ∃ as : List Addr, vs = as.map V.ref ∧ as.length = ls.length ∧ lstAt H1 as ls ∧ ∀ a ∈ as, ¬ O a
  | [], _, r => by cases r; exact ⟨[], rfl, rfl, rfl, fun _ h => by cases h⟩
  | l :: ls, _, r => by
    obtain ⟨v, r', rfl, ⟨b, rfl, hn, us, hb, q⟩, q'⟩ := r
    obtain ⟨as, rfl, h1, h2, h3⟩ := lls_at q'
    cases RepAll.ints l q
    exact ⟨b :: as, rfl, by simp [h1], ⟨l, ls, rfl, hb, h2⟩, fun a ha => by
      rcases List.mem_cons.mp ha with rfl | ha
      · exact hn
      · exact h3 a ha⟩
theorem lstAt_mem : ∀ {as : List Addr} {ls : List (List Int)}, lstAt H1 as ls → ∀ a ∈ as, ∃ l ∈ ls, H1 a = some (.lst (l.map V.int))
  | [], _, _, _, h => by cases h
  | b :: as, _, ⟨l, r, rfl, h1, h2⟩, a, h => by
    rcases List.mem_cons.mp h with rfl | h
    · exact ⟨l, List.mem_cons_self .., h1⟩
    · obtain ⟨l', q1, q2⟩ := lstAt_mem h2 a h
      exact ⟨l', List.mem_cons_of_mem _ q1, q2⟩
theorem flats_refs : ∀ as : List Addr, D.flats (as.map D.ref) = true
  | [] => rfl
  | a :: as => by show ((D.ref a).flat && D.flats (as.map D.ref)) = true; rw [flats_refs as]; rfl
theorem rep_refs {O : Addr → Prop} : ∀ as : List Addr, RepAll H1 (as.map D.ref) O (as.map V.ref)
  | [] => rfl
  | a :: as => ⟨_, _, rfl, rfl, rep_refs as⟩
end
section
variable {X : Cx} {ω : Type} {C : Cn ω} {te : EM C} {st : Stmt} {rest : List Stmt} {t : SM C}
theorem vsfrz (i : Nat) (h : VSs X C rest t) : VSs X C rest (frzM i t) := PSsimp h fun D σ H ⟨Z, Γ, w, E0, R, ht, o⟩ => ⟨Z, _, w, E0, (R.frz i).1, ht, o.go (R.frz i).2⟩
abbrev rgE (E : EndM C) (C' : Cn (RgW ω)) : EndM C' := ⟨fun _ _ => False, fun d w => E.rt d w.1, fun _ _ => False, fun _ _ => False⟩
/-- x = e, a flat thing or a new tuple of new lists of numbers; then all else, in which these lists are known by their places -/
def regM (i : Nat) (te : EM C) (m : ∀ (as : List Addr) (C' : Cn (RgW ω)), SM C') : SM C := fun E Γ w => noOwn Γ = true ∧ te Γ w fun md d w1 => md = .F ∧
  ((d.flat = true ∧ ∀ C' : Cn (RgW ω), m [] C' (rgE E C') (Γ.set i (.val true d)) (w1, some [], 0)) ∨
   ∃ ls : List (List Int), d = .tup (ls.map fun l => .lst (l.map D.int)) ∧ (∀ l ∈ ls, l.length ≤ 1000) ∧ ∀ (as : List Addr) (C' : Cn (RgW ω)), as.length = ls.length → m as C' (rgE E C') (Γ.set i (.val true (.tup (as.map D.ref)))) (w1, some ls, 1000))
theorem vreg {m : ∀ (as : List Addr) (C' : Cn (RgW ω)), SM C'} (i : Nat) (hp : PS X st (tAsg (lE C te) (gName i))) (hr : ∀ (as : List Addr) (C' : Cn (RgW ω)), IsRg C' as → VSs X C' rest (m as C')) : VSs X C (st :: rest) (regM i te m) := by
  refine PSsimp (pss_cons hp (t := _) (u := fun Dn σ H' => ∃ (as : List Addr) (C' : Cn (RgW ω)) (h : IsRg C' as), lS C' (m as C') Dn σ H') ⟨fun pins s' σ H' Dn I ⟨as, C', h, q⟩ => (hr as C' h).run pins s' σ H' Dn I q⟩) ?_
  rintro Dn σ H ⟨Z, Γ, w, E0, R, ⟨hno, ht⟩, ok⟩
  refine ⟨Z, Γ, w, _, R, ht, fun md d w1 v H1 h1 e1 wr1 r1 => ?_⟩
  obtain ⟨rfl, h1⟩ := h1
  have hA : ∀ b, C.A0 b → H1 b ≠ none := fun b z => e1.dom b (R.ext.dom b (C.hA b z))
  have hW : ∀ b, C.W b → H1 b ≠ none := fun b z => e1.dom b (R.ext.dom b (C.hW b z))
  have r1 : Rep H1 d (fun b => H b ≠ none) v := r1
  have fin : ∀ (as : List Addr) (d' : D) (x : Option (List (List Int)) × Nat), (∀ a ∈ as, H a = none) → (has : ∀ a ∈ as, H1 a ≠ none) → (regC C as H1 hA hW has).wr (w1, x) H1 → d'.flat = true → Rep H1 d' (fun _ => False) v → (∀ C' : Cn (RgW ω), m as C' (rgE E0 C') (Γ.set i (.val true d')) (w1, x)) →
      ∃ (as : List Addr) (C' : Cn (RgW ω)) (h : IsRg C' as), lS C' (m as C') Dn (σ.set i (some v)) H1 := fun as d' x hn has wr hd r hm => by
    have hdw : ∀ a ∈ as, ¬ C.W a := fun a ha z => R.ext.dom a (C.hW a z) (hn a ha)
    refine ⟨as, regC C as H1 hA hW has, regC_is hdw, fun _ => False, _, _, _, reg_rel R hno e1 hn wr hd r, hm _, ⟨fun _ _ _ _ z _ _ => z.elim, fun _ _ _ _ z _ _ => z.elim, fun _ _ _ _ z _ _ => z.elim, fun dd w' u H'' hdd e wr' rr => ?_⟩⟩
    refine ok.rt _ w'.1 _ _ hdd ⟨fun b h => e.dom b (e1.dom b (R.ext.dom b h)), fun b o h n => ?_, fun b o h => e.tup b o (e1.tup b o (R.ext.tup b o h))⟩ wr'.1 rr
    refine e.keep b o (e1.keep b o (R.ext.keep b o h n) n) fun z => z.elim n fun z => ?_
    exact R.ext.dom b (by rw [h]; simp) (hn b z)
  rcases h1 with ⟨hfl, h1⟩ | ⟨ls, rfl, hls, h1⟩
  · exact fin [] d (some [], 0) (fun _ z => by cases z) (fun _ z => by cases z) ⟨wr1, fun ls e => by cases e; rfl, fun _ z => by cases z⟩ hfl (Rep.flat _ hfl r1) h1
  · obtain ⟨a, vs, rfl, ha, q⟩ := r1
    obtain ⟨as, rfl, h2, h3, h4⟩ := lls_at q
    have hn : ∀ b ∈ as, H b = none := fun b hb => by
      cases z : H b with
      | none => rfl
      | some o => exact absurd (show H b ≠ none by rw [z]; simp) (h4 b hb)
    have hl : ∀ b ∈ as, ∃ vs, H1 b = some (.lst vs) ∧ vs.length ≤ 1000 := fun b hb => by
      obtain ⟨l, q1, q2⟩ := lstAt_mem h3 b hb
      exact ⟨_, q2, by rw [List.length_map]; exact hls l q1⟩
    refine fin as (.tup (as.map D.ref)) (some ls, 1000) hn (fun b hb => by obtain ⟨vs, q1, _⟩ := hl b hb; rw [q1]; simp) ⟨wr1, fun ls' e => by cases e; exact h3, hl⟩ (flats_refs as) ⟨a, _, rfl, ha, rep_refs as⟩ fun C' => h1 as C' h2
end
section
variable {X : Cx} {ω : Type} {C : Cn (RgW ω)} {te ta : EM C} {ts : AM C} {as : List Addr}
/-- data read through the places -/
def DerAll (as : List Addr) (x : Option (List (List Int))) : List D → List D → Prop
  | [], es => es = []
  | d :: ds, es => ∃ e r, es = e :: r ∧ (e = d ∨ ∃ (k : Nat) (a : Addr) (ls : List (List Int)) (l : List Int), d = .ref a ∧ as[k]? = some a ∧ x = some ls ∧ ls[k]? = some l ∧ e = .lst (l.map D.int)) ∧ DerAll as x ds r
theorem DerAll.length {x : Option (List (List Int))} : ∀ {ds es : List D}, DerAll as x ds es → es.length = ds.length
  | [], _, h => by cases h; rfl
  | d :: ds, _, ⟨e, r, rfl, _, h⟩ => by simp [DerAll.length h]
theorem der_args {H : Hp} {A : Addr → Prop} {x : Option (List (List Int))} (hat : ∀ ls, x = some ls → lstAt H as ls) : ∀ {ds es : List D} {vs : List V}, Args H A (fun _ => False) [] ds vs → DerAll as x ds es → Args H A (fun _ => False) [] es vs
  | [], _, _, h, z => by cases z; exact h
  | d :: ds, _, _, ⟨v, r, rfl, h1, h2⟩, ⟨e, r', rfl, h3, h4⟩ => by
    refine ⟨v, r, rfl, ?_, der_args hat h2 h4⟩
    rcases h3 with rfl | ⟨k, a, ls, l, rfl, q1, q2, q3, rfl⟩
    · exact h1
    · have e : v = .ref a := h1
      subst e
      exact ⟨a, rfl, (fun z => z.elim id fun z => by cases z.1), _, lstAt_get (hat ls q2) q1 q3, RepAll.ofInts _⟩
def callRg (as : List Addr) (n : Nat) (P0 : PD) (ts : AM C) : EM C := fun Γ w Q => ts Γ w fun ps w1 => ps.length = n ∧ ∃ ds, DerAll as w1.2.1 (ps.map (·.2)) ds ∧ P0 ds fun d => Q .F d w1
theorem vcallRg {x : Str} {k : Nat} {ps : List Str} {n : Nat} {P0 : PD} {e : Expr} {es : List Expr} {p pos : Pos} (hRg : IsRg C as) (F : FnC X.prog X.w X.K X.mg X.base x k ps (spD n [] P0)) (hr : Room k X.A) (hp : Passes (L2.CX X.prog X.w) X E0) (ha : VA X C (e :: es) ts) (hg : Gl X x := by rfl) (hdb : (x == ("__debug__" : Str)) = false := by decide)
    (he : starEach (e :: es) X.env = (false, eval e X.env) :: starEach es X.env := by rfl) (hpl : (backTo pos (starEach es X.env)).any (·.1) = false := by rfl) : VE X C (.Call (.Name x p) (e :: es) [] pos) (callRg as n P0 ts) := by
  obtain ⟨f, fd, hm, hk, hB, F⟩ := F
  refine PEimp (pe_call (dvs := []) F hr hg hm hk hB .nil hp ha hdb he hpl) fun σ H Q ⟨Z, Γ, w, Q0, R, ht, hq⟩ => ⟨Z, Γ, w, _, R, ht, fun ps w1 vs H1 h1 e1 wr1 r1 => ?_⟩
  obtain ⟨hl, ds, hds, h1⟩ := h1
  have B := R.bs.ext e1
  refine ⟨fun b => H b ≠ none, ds, fun d => Q0 .F d w1, fun b h => e1.dom b h, by rw [hds.length]; simpa using hl, ?_, h1, fun d v H' hd g r => hq .F d w1 v H' hd (e1.trans (.same g)) ((R.step e1 wr1).wsame g) r⟩
  rw [List.append_nil]
  refine der_args (fun ls e => hRg.at_ _ _ ls wr1 e) (args_ok (frs := []) B (fun _ z => z.elim) r1 ?_) hds
  have : ∀ ps : List (Md × D), frOk [] ps = true := fun ps => by
    induction ps with
    | nil => rfl
    | cons p ps ih => unfold frOk; simp [ih]
  exact this ps
def appRgM (as : List Addr) (te ta : EM C) : SM C := fun E Γ w => te Γ w fun _ d w1 => ∃ a, a ∈ as ∧ d = .ref a ∧ ta Γ w1 fun _ _ w2 => w2.2.2 < 100000 ∧ E.nx Γ (w2.1, none, w2.2.2 + 1)
theorem vappRg {st : Stmt} (hRg : IsRg C as) (hp : PS X st (tDrop (tBM X.K "list" rAppend (lE C te) (lA C (consA ta nilA))))) : VS1 X C st (appRgM as te ta) :=
  PSimp hp fun D σ H ⟨Z, Γ, w, E0, R, ht, o⟩ => ⟨Z, Γ, w, _, R, ht, fun md d w1 v H1 h1 e1 wr1 r1 => by
    obtain ⟨a, ha, rfl, h1⟩ := h1
    have ev : v = .ref a := r1.any (R.bs.ext e1)
    subst ev
    obtain ⟨vs, hl, _⟩ := hRg.ls _ _ a wr1 ha
    refine ⟨.inl ⟨rfl, _, SqL.of hl⟩, Z, Γ, w1, (fun ps w2 => match ps with | [_] => w2.2.2 < 100000 ∧ E0.nx Γ (w2.1, none, w2.2.2 + 1) | _ => False), R.step e1 wr1, h1, fun ps w2 us H2 h2 e2 wr2 r2 => ?_⟩
    dsimp only at h2
    split at h2
    · obtain ⟨u, rfl, rx⟩ := r2.one
      obtain ⟨vs2, hl2, hn2⟩ := hRg.ls _ _ a wr2 ha
      refine ⟨a, vs2, u, rfl, rfl, hl2, Nat.lt_of_le_of_lt hn2 (Nat.lt_trans h2.1 (by rw [sizeLine_eq]; decide)), ?_⟩
      have E3 : Ext C.W H (upd H2 a (.lst (vs2 ++ [u]))) := ext_upd (e1.trans e2) (hRg.w a ha) ⟨_, hl2⟩
      exact o.nx _ _ _ _ h2.2 (R.step E3 (hRg.put _ _ a _ wr2 ha (by rw [List.length_append]; simp; omega))) (.of_ext E3)
    · exact h2.elim⟩
end
end VS

/-! ### a comprehension whose item may raise -/
namespace VS
open PySem PySem.Spec PyProof.Rows L2
theorem note_frame {x : Value} {e1 e2 : Env} (h : e1.frame = e2.frame) : noteFrame x e1 = noteFrame x e2 := by
  unfold noteFrame PySem.frameOf
  rw [h]
section
variable {M : Model} {A : Around} {E : Value → Shared → Prop} {s : Shared} {Z : Obj → Prop} {base : Heap} {env : Env} {outer : List Env} {L a : Addr} {fl : Value}
/-- a frame notes an exception that is in flight, wherever it has been noted last -/
theorem note_any {Q : Unit → Shared → Prop} (hZ : HandSPX.Steady Z) (hfr : A.frames = some (env :: outer)) (hf : env.frame = some L) (kb : base.StaysIn s.heap) (en : base.get? a = none) (hl : s.heap.FunFrames base (env :: outer)) (ht : HandSPX.TracedZ s.heap base a Z fl)
    (hQ : ∀ h', HandSPX.HeldZ base (env :: outer) a Z L h' → s.heap.UpToSlots h' → Q () { s with heap := h' }) : wpAny M A (noteFrame (.ref a) env) Q E s := by
  by_cases hfl : fl = rawInt L
  · subst hfl
    exact HandSPX.againZ hf ht (hQ s.heap ⟨kb, en, hl, ht⟩ (Heap.UpToSlots.refl _))
  · obtain ⟨oe, vs, T, oT, ts, h1, h2, h3, h4, h5, h6, h7, h8, h9⟩ := ht
    have t1 : (Value.ref T != Value.none) = true := by simp
    have t2 : ¬ ((fl == rawInt L) = true) := fun z => hfl (by simpa using z)
    have nf : ∀ {b : Addr} {o : Obj}, s.heap.get? b = some o → (∀ us, o.data ≠ .fields us) → T ≠ b := fun {b o} e n z => by
      rw [← z, h7] at e
      cases e
      exact n ts h8
    have ne : ∀ b, T ≠ b → (s.heap.update T (Obj.mapFields (·.setIfInBounds 3 Value.none))).get? b = s.heap.get? b := fun b hb => Heap.get?_update_other _ _ hb
    unfold noteFrame
    simp only [hf]
    refine wpAny_bind (wpAny_field h1 h3 h4 ?_)
    rw [if_pos t1]
    refine wpAny_bind (wpAny_field h7 h8 h9 ?_)
    rw [if_neg t2]
    refine wpAny_bind (wpAny_setField h7 h8 (Array.getElem?_eq_some_iff.mp h9).1 ?_)
    have b1 : base.StaysIn (s.heap.update T (Obj.mapFields (·.setIfInBounds 3 Value.none))) := fun b o e => by
      rw [ne b fun z => by rw [← z, h5] at e; cases e]
      exact kb b o e
    have l1 : (s.heap.update T (Obj.mapFields (·.setIfInBounds 3 Value.none))).FunFrames base (env :: outer) := hl.of_keeps fun b o e n => ⟨o, by rw [ne b (nf e n)]; exact e, rfl⟩
    refine HandSPX.wpAny_entryZ hZ hfr l1 hf (by rw [ne a h6]; exact h1) b1 en h3 (Array.getElem?_eq_some_iff.mp h4).1 h2 fun h' hN => ?_
    obtain ⟨x1, x2, x3, x4⟩ := hN
    exact hQ h' ⟨x1, en, x2, x3⟩ fun b o e n => x4 b o (by rw [ne b (nf e n)]; exact e) n
end
theorem funs_same {B B2 h h2 : Heap} : ∀ {l : List Env}, h.FunFrames B l → (∀ b ∈ frs l, h2.get? b = h.get? b ∧ (B.get? b = none → B2.get? b = none)) → h2.FunFrames B2 l
  | [], _, _ => trivial
  | env :: l, ⟨hk, ⟨L, o, hf, hn, ho, hd⟩, hr⟩, k => by
    have hm : L ∈ frs (env :: l) := List.mem_filterMap.mpr ⟨env, List.mem_cons_self, hf⟩
    refine ⟨hk, ⟨L, o, hf, (k L hm).2 hn, (k L hm).1.trans ho, hd⟩, funs_same hr fun b hb => k b ?_⟩
    obtain ⟨e, he, q⟩ := List.mem_filterMap.mp hb
    exact List.mem_filterMap.mpr ⟨e, List.mem_cons_of_mem _ he, q⟩
section
variable {X : Cx} {scope : Scope} {cenv : Env} {fp : List Addr} {s0 : Shared} {H0 : Hp} {E : XK} {pins : List (Addr × Obj)} {σ : L2.St}
/-- out of the block: its names are let go, then the exception goes on in the def's own frame -/
theorem blk_fails (I0 : Inv X pins σ H0 s0) (hst : X.stack = X.env :: X.outer) (hfr : X.env.frame = some X.env.locals) (tk : Takes X fun cls d _ H => E cls d H) (hL : cenv.locals = s0.heap.objs.size) (hF : cenv.frame = X.env.frame) (hfp : ∀ b ∈ fp, FpOk X pins H0 b)
    {u : Value} {s' : Shared} (x : XE (X.blk s0 H0 scope cenv fp) (fun cls d _ H => E cls d H) u s') : notedBy (model X.prog X.w) X.A cenv (CompFails (model X.prog X.w) X.A X.xe cenv) u s' := by
  obtain ⟨a, B, sI, pins', σ', H', cls, d, rfl, J, nb, up, sky, na, os, ag, w⟩ := x
  have JC : H' cenv.locals = none := J.free
  have sk : X.A.frames = some (X.env :: X.outer) := by rw [I0.ok.frames, hst]
  have hC0 : ∀ b o, s0.heap.get? b = some o → b ≠ cenv.locals := fun b o e z => by
    have := Heap.lt_size e
    rw [z, hL] at this
    exact absurd this (Nat.lt_irrefl _)
  have hfs : ∀ b ∈ frs X.stack, b ≠ cenv.locals := fun b hb z => by
    rcases List.mem_cons.mp (I0.stkSub b hb) with e | e
    · have := I0.lt
      rw [← e, z, hL] at this
      exact absurd this (Nat.lt_irrefl _)
    · exact I0.nofs (a := b) (by rw [z, hL]; exact Nat.le_refl _) e
  have hide : ∀ {h : Heap} {b : Addr} {o : Obj}, h.get? b = some o → b ≠ cenv.locals → (PySem.W.hideAll h [cenv.locals]).get? b = some o := fun e n => PySem.W.hideAll_get _ e fun z => n (List.mem_singleton.mp z)
  have shown : ∀ {h : Heap} {b : Addr} {o : Obj}, (PySem.W.hideAll h [cenv.locals]).get? b = some o → h.get? b = some o ∧ b ≠ cenv.locals := fun {h b o} e => ⟨PySem.W.of_hideAll _ e, fun z => by
    rw [PySem.W.hideAll_none _ (List.mem_singleton.mpr z)] at e; cases e⟩
  have gone : ∀ {h : Heap} {b : Addr}, h.get? b = none → (PySem.W.hideAll h [cenv.locals]).get? b = none := fun {h b} e => by
    cases q : (PySem.W.hideAll h [cenv.locals]).get? b with
    | none => rfl
    | some o => rw [(shown q).1] at e; cases e
  obtain ⟨m, hm, _⟩ := J.loc
  have hm : sI.heap.Ns cenv.locals m := hm
  have key : ∀ h1, HandSPX.HeldZ B (X.env :: X.outer) a (Zc cls d) X.env.locals h1 → s'.heap.UpToSlots h1 → CompFails (model X.prog X.w) X.A X.xe cenv (.ref a) { s' with heap := h1 } := fun h1 hh up1 => by
    obtain ⟨k1, k2, k3, oe, vs, T, oT, ts, q1, q2, q3, q4, q5, q6, q7, q8, q9⟩ := hh
    have hn1 : h1.Ns cenv.locals m := (up.trans up1).ns hm
    refine ⟨m, hn1, fun h2 m2 _ sb => ?_⟩
    obtain ⟨oc, es, ep, c1, c2, _⟩ := hn1
    have notC : ∀ {b : Addr} {o : Obj} {us : Array Value}, h1.get? b = some o → o.data = .fields us → b ≠ cenv.locals := fun {b o us} e hd z => by
      rw [z, c1] at e; cases e
      rw [c2] at hd; cases hd
    have p1 : h2.get? a = some oe := (sb.2 a (notC q1 q3)).trans q1
    have p7 : h2.get? T = some oT := (sb.2 T (notC q7 q8)).trans q7
    have b2 : (PySem.W.hideAll B [cenv.locals]).StaysIn h2 := fun b o e => by
      obtain ⟨e1, e2⟩ := shown e
      exact (sb.2 b e2).trans (k1 b o e1)
    have l2 : h2.FunFrames (PySem.W.hideAll B [cenv.locals]) (X.env :: X.outer) := funs_same k3 fun b hb => ⟨sb.2 b (hfs b (by rw [hst]; exact hb)), gone⟩
    have t2 : HandSPX.TracedZ h2 (PySem.W.hideAll B [cenv.locals]) a (Zc cls d) (rawInt X.env.locals) := ⟨oe, vs, T, oT, ts, p1, q2, q3, q4, gone q5, q6, p7, q8, q9⟩
    have t1 : ¬ ((Value.ref T == Value.none) = true) := by simp
    unfold PySem.passOn
    refine wpAny_bind (wpAny_field p1 q3 q4 ?_)
    rw [if_neg t1, hF, hfr]
    refine wpAny_bind (HandSPX.setFlight_anyZ (s := { s' with heap := h2 }) b2 l2 t2 fun h3 b3 l3 t3 up3 => wpAny_throw ?_)
    refine tk _ _ ⟨a, PySem.W.hideAll B [cenv.locals], { sI with heap := PySem.W.hideAll sI.heap [cenv.locals] }, pins, σ, H', cls, d, rfl, ?_, fun b o e n => ?_, fun b o e n => ?_, .inr (.inr ⟨b3, gone k2, by rw [hst]; exact l3, t3⟩), na, os, ag, w⟩
    · have u := J.base
      refine I0.call' (ch := fp) J.os ⟨fun b o e n h1 h2 => hide (u.keep b o e n h1 h2) (hC0 b o e), fun b o e n h1 h2 => ?_, u.free, fun b o e h1 => ?_, u.tups, u.frzs, u.tbls⟩ (fun b o e => (J.hok b o e).stay (fun c v hc r => hide r fun z => ?_) (fun _ r => r) fun _ _ r => r) J.bare fun b hb => ?_
      · obtain ⟨sl, r⟩ := u.slot b o e n h1 h2
        exact ⟨sl, hide r (hC0 b o e)⟩
      · obtain ⟨o', r⟩ := u.there b o e h1
        exact ⟨o', hide r (hC0 b o e)⟩
      · rcases hc with hc | hc
        · rw [← hc, z, JC] at e; cases e
        · rw [z, JC] at hc; cases hc
      · obtain ⟨_, g1, _, g3, g4, g5⟩ := hfp b hb
        exact ⟨g3, g1, g4, g5⟩
    · obtain ⟨e1, e2⟩ := shown e
      exact hide (nb b o e1 n) e2
    · obtain ⟨e1, e2⟩ := shown e
      obtain ⟨sl, r⟩ := (up.trans up1) b o e1 n
      obtain ⟨sl2, r2⟩ := up3 b { o with slots := sl } ((sb.2 b e2).trans r) n
      exact ⟨sl2, r2⟩
  show wpAny _ _ (noteFrame (.ref a) cenv) _ _ s'
  rw [note_frame hF]
  have sky : Sky B X.stack a (Zc cls d) cenv.locals s'.heap := sky
  rw [hst] at sky
  rcases sky with ⟨g1, g2, g3, oe, vs, g4, g5, g6, g7⟩ | ⟨g1, g2, g3, g4⟩ | ⟨g1, g2, g3, g4⟩
  · exact HandSPX.look_newZ Zc.steady sk g3 hfr g4 g1 g2 g6 g7 g5 key
  · exact note_any Zc.steady sk hfr g1 g2 g3 g4 key
  · exact note_any Zc.steady sk hfr g1 g2 g3 g4 key
end
abbrev airE (X : Cx) (E : XK) : Value → Shared → Prop := fun u s' => XE X (fun cls d _ H => E cls d H) u s'
section
variable {X : Cx} {E : XK}
/-- THE RULE: [elt for tg in iter if ..], elt may raise what E takes -/
theorem pe_lcX {elt tg iter : Expr} {ifs : List Expr} {scope : Scope} {own : List (Str × Nat)} {pos : Pos} {wi : TI} {g : TG} {tt : TT} {te : TE} (hc : X.calm = true) (hN : X.N.Nodup) (hst : X.stack = X.env :: X.outer) (hfr : X.env.frame = some X.env.locals) (tk : Takes X fun cls d _ H => E cls d H)
    (hi : PI X tg iter wi) (ok : BlkOk X.N X.env.scope scope own) (hg : ∀ (s : Shared) (H : Hp) (Cc : Addr) (cl : List (Str × Addr)) (fp : List Addr), PG (X.blk s H scope (compEnvC scope cl Cc X.env) fp) tg g)
    (ht : ∀ (s : Shared) (H : Hp) (Cc : Addr) (cl : List (Str × Addr)) (fp : List Addr), PTs (X.blk s H scope (compEnvC scope cl Cc X.env) fp) ifs tt)
    (he : ∀ (s : Shared) (H : Hp) (Cc : Addr) (cl : List (Str × Addr)) (fp : List Addr), PE ((X.blk s H scope (compEnvC scope cl Cc X.env) fp).wish (airE (X.blk s H scope (compEnvC scope cl Cc X.env) fp) E)) elt te)
    (hs : ∀ x, foldedSetIterable iter X.env x = pure x := by intro _; rfl) : PE X (.ListComp elt [⟨tg, iter, ifs, 0⟩] scope pos) (tLc wi g tt te (own.map (·.2))) := by
  refine ⟨fun pins s σ H Q I h => ?_⟩
  rw [eval_ListComp]
  have fr : ∀ y ∈ scope.names, y.2 = .free → ∃ c, X.env.cells.lookup y.1 = some c := fun y hy e => (ok.free y hy e).elim (fun k => I.ok.has _ (.inl k)) fun k => I.ok.has _ (.inr k)
  refine comprehension_at (use := none) rfl hs (closure_ok fr) ok.kind (fun y hy e => by rw [ok.uniq y hy, e]) (thn (hi.run pins s σ H _ I h) fun xv sA hA => thn hA fun iv sB hB => ?_)
  obtain ⟨it, fp, tn, J, HB, rfl, IB, T, stB, fB, q⟩ := hB
  refine wpAny_newObj_type (newEnv_comp ?_) (by show 0 ≤ sizeLine; decide)
  have hDn : HB sB.heap.objs.size = none := IB.hok.fresh (Nat.le_refl _)
  obtain ⟨W, ⟨m0, w0⟩, turn⟩ := q sB.heap.objs.size hDn
  generalize hD : sB.heap.objs.size = D at hDn w0 turn ⊢
  -- the state with the new list
  generalize hsC : ({ sB with heap := sB.heap.push { cls := .type "list", data := .seq ([] : List Value).toArray } } : Shared) = sC
  have eC : sC.heap = sB.heap.push { cls := .type "list", data := .seq ([] : List Value).toArray } := by rw [← hsC]
  have keptC : ∀ b o, sB.heap.get? b = some o → sC.heap.get? b = some o := fun b o e => by rw [eC]; exact Heap.get?_push_of_some _ e
  have IC : Inv X pins σ (upd HB D (.lst [])) sC := by
    rw [← hsC]
    refine IB.laid (t' := sB.toks) (fun b o e => Heap.get?_push_of_some _ e) (Nat.le_of_eq hD) ⟨Nat.zero_le _, [], 0, .nil, ?_⟩
    rw [← hD]
    exact Heap.get?_push_size _ rfl
  have ltB : ∀ b ∈ fp, b < sB.heap.objs.size := fun b hb => let ⟨_, e, _⟩ := T.obj _ _ stB b hb; Heap.lt_size e
  have fC : ∀ b ∈ fp, FpOk X pins (upd HB D (.lst [])) b ∧ b < sC.heap.objs.size := fun b hb => by
    have l := ltB b hb
    have ne : b ≠ D := by rw [← hD]; exact Nat.ne_of_lt l
    exact ⟨⟨(upd_ne ne).trans (fB b hb).1, (fB b hb).2⟩, by rw [eC, Heap.size_push]; exact Nat.lt_succ_of_lt l⟩
  have stC : tn 0 sC.heap := T.keep _ _ _ stB fun b _ o e => keptC b o e
  have nfp : ∀ b ∈ fp, (upd HB D (.lst [])) b = none := fun b hb => (fC b hb).1.1
  generalize hHC : upd HB D (.lst []) = HC at IC fC nfp w0
  have IY := block_start IC ok hN fC
  have pg := fun cl => hg sC HC sC.heap.objs.size cl fp
  have pt := fun cl => ht sC HC sC.heap.objs.size cl fp
  have pe := fun cl => he sC HC sC.heap.objs.size cl fp
  show codeAny (model X.prog X.w) X.A (.compStart (.ListComp elt [⟨tg, iter, ifs, 0⟩] scope pos) 0 (.ref it) (.ref D) (compEnvC scope (cellsFrom (sC.heap.objs.size + 1) scope.names (cloFrom X.env.cells scope.names [])) sC.heap.objs.size X.env))
    (compEnds (model X.prog X.w) X.A X.xe none (EP X pins σ Q) (.ref D) (compEnvC scope (cellsFrom (sC.heap.objs.size + 1) scope.names (cloFrom X.env.cells scope.names [])) sC.heap.objs.size X.env)) _
  generalize cellsFrom (sC.heap.objs.size + 1) scope.names (cloFrom X.env.cells scope.names []) = cl at IY ⊢
  have pg := pg cl
  have pt := pt cl
  have pe := pe cl
  generalize hce : compEnvC scope cl sC.heap.objs.size X.env = ce at IY pg pt pe ⊢
  have cL : ce.locals = sC.heap.objs.size := by subst hce; rfl
  have cF : ce.frame = X.env.frame := by subst hce; rfl
  generalize hsD : ({ sC with heap := pushCells (sC.heap.push { cls := .type "dict", data := .dict #[] }) scope.names } : Shared) = sD at IY ⊢
  have stD : tn 0 sD.heap := T.keep _ _ _ stC fun b _ o e => by rw [← hsD]; exact pushCells_keeps _ _ _ _ (Heap.get?_push_of_some _ e)
  have fpY : ∀ {σ' : L2.St} {H' : Hp} {s' : Shared}, Inv (X.blk sC HC scope ce fp) [] σ' H' s' → (∀ b ∈ fp, H' b = none) → ∀ b ∈ fp, FpOk (X.blk sC HC scope ce fp) [] H' b := fun {σ' H' s'} I' hn b hb =>
    have z := I'.ok.exf b hb
    ⟨hn b hb, z.1, I'.ok.exfs b hb, .inl hb, fun x c e => z.2 x c e, fun p hp => absurd (show p ∈ ([] : List (Addr × Obj)) ++ [] from hp) (by simp)⟩
  have out : ∀ {u : Value} {s' : Shared}, XE (X.blk sC HC scope ce fp) (fun cls d _ H => E cls d H) u s' → notedBy (model X.prog X.w) X.A ce (CompFails (model X.prog X.w) X.A X.xe ce) u s' :=
    fun x => blk_fails IC hst hfr tk cL cF (fun b hb => (fC b hb).1) x
  have loop : codeAny (model X.prog X.w) X.A (.compLoop (.ListComp elt [⟨tg, iter, ifs, 0⟩] scope pos) 0 (.ref it) (.ref D) ce) (compEnds (model X.prog X.w) X.A X.xe none (EP X pins σ Q) (.ref D) ce) sD := by
    refine compLoop_any (fun n s' => ∃ i H', Inv (X.blk sC HC scope ce fp) [] (wipe σ (own.map (·.2))) H' s' ∧ tn i s'.heap ∧ (∀ b ∈ fp, H' b = none) ∧ W i n H') ?_ m0 ⟨0, HC, IY, stD, nfp, w0⟩
    rintro n s5 ⟨i, H5, I5, st5, n5, w5⟩
    rcases turn i n H5 w5 with ⟨stop, qq⟩ | ⟨go, Nx, hNx, step⟩
    · refine thnF (T.done (X.blk sC HC scope ce fp) rfl rfl rfl hc i [] s5 _ H5 (fun _ _ => False) I5 (fpY I5 n5) st5 stop) fun r s6 ⟨hr, I6⟩ => ?_
      subst hr
      have I7 : Inv X pins σ H5 s6 := IC.call' (ch := fp) I6.os I6.base I6.hok I6.bare fun b hb => by
        obtain ⟨_, g1, _, g3, g4, g5⟩ := (fC b hb).1
        exact ⟨g3, g1, g4, g5⟩
      have nC : H5 sC.heap.objs.size = none := by rw [← cL]; exact I6.free
      obtain ⟨m, hn, _⟩ := I6.loc
      obtain ⟨f0, f1, f2, f3, f4, f5⟩ := IC.fpOk (b := sC.heap.objs.size) (Nat.le_refl _) nC
      refine ⟨m, hn, fun h'' sb => ⟨.ref D, H5, I7.turned (t' := s6.toks) (fun b o hb e => (sb.2 b ?_).trans e) f0 f1 f3 f4 f5, rfl, qq⟩⟩
      rw [cL]; exact hb
    · refine thnF (T.item (X.blk sC HC scope ce fp) rfl rfl rfl hc i [] s5 _ H5 (fun _ _ => False) I5 (fpY I5 n5) st5 go) fun r s6 ⟨v, hr, h6⟩ => ?_
      subst hr
      refine thnF h6 fun _ s7 ⟨x, H7, I7, r7, y7, st7, n7⟩ => ?_
      have P7 := I7.pinned (fpY I7 n7) (T.obj _ _ st7)
      refine thnF (pg.run _ s7 _ H7 x v _ P7 r7 (step x H7 y7)) fun _ s8 ⟨σ8, H8, I8, hw8, q8⟩ => ?_
      refine thnF (pt.run _ s8 σ8 H8 _ I8 q8) fun b s9 ⟨H9, I9, q9⟩ => ?_
      have fin : ∀ {s' : Shared} {H' : Hp}, Inv (X.blk sC HC scope ce fp) ([] ++ pinsAt fp s7.heap) σ8 H' s' → Nx H' → ∃ m, m < n ∧ ∃ i H', Inv (X.blk sC HC scope ce fp) [] (wipe σ (own.map (·.2))) H' s' ∧ tn i s'.heap ∧ (∀ b ∈ fp, H' b = none) ∧ W i m H' := fun {s' H'} I' nx => by
        obtain ⟨m', hm, w'⟩ := hNx H' nx
        have pin : ∀ b ∈ fp, ∀ o, s7.heap.get? b = some o → s'.heap.get? b = some o ∧ H' b = none := fun b hb o e => by
          have z := I'.pin (b, o) (List.mem_append_right _ (List.mem_append_right _ (mem_pinsAt hb e)))
          exact ⟨z.1, z.2.1⟩
        refine ⟨m', hm, i + 1, H', (I'.unpinned (pins := [])).weak (by rw [← hw8, wipe_length]) (fun j v e => ?_), T.keep _ _ _ st7 fun b hb o e => (pin b hb o e).1, fun b hb => ?_, w'⟩
        · rw [← hw8] at e
          exact (wipe_some e).1
        · obtain ⟨o, e, _⟩ := T.obj _ _ st7 b hb
          exact (pin b hb o e).2
      dsimp only at q9 ⊢
      by_cases hb : b = true
      · rw [if_pos hb] at q9 ⊢
        refine wpAny_mono (pe.run _ s9 σ8 H9 _ (I9.wish _) q9) (fun z sE ⟨yv, HE, IE, rE, acc, hDE, hzE, nx⟩ => app_ok (X := X.blk sC HC scope ce fp) IE.unwish hDE hzE rE fun sF IF => fin IF nx) fun u s' z => out z
      · rw [if_neg hb] at q9 ⊢
        exact fin I9 q9
  exact codeAny_compStart_list loop (T.self X.A 0 _ _ _ stD loop)
end
section
variable {X : Cx} {ω : Type} {C : Cn ω} {Kx : Xn → Prop} {E0 : XK}
theorem vcallXp {x : Str} {k : Nat} {ps : List Str} {n : Nat} {frs : List Bool} {P0 : PX} {e : Expr} {es : List Expr} {ts : AM C} {p pos : Pos} (F : FnC X.prog X.w X.K X.mg X.base x k ps (spX X.mg n frs P0)) (hr : Room k X.A) (hp : Passes (L2.CX X.prog X.w) X E0) (hk : ∀ (x : Xn) (cls : Value) (d : Option Addr) (H1 H' : Hp), Kx x → Ext C.W C.H0 H1 → XAt X.mg H1 x cls d H' → E0 cls d H') (ha : VA X C (e :: es) ts) (hg : Gl X x := by rfl) (hdb : (x == ("__debug__" : Str)) = false := by decide)
    (he : starEach (e :: es) X.env = (false, eval e X.env) :: starEach es X.env := by rfl) (hpl : (backTo pos (starEach es X.env)).any (·.1) = false := by rfl) : VE X C (.Call (.Name x p) (e :: es) [] pos) (callX n frs P0 Kx ts) := by
  obtain ⟨f, fd, hm, hkp, hB, F⟩ := F
  refine PEimp (pe_call (dvs := []) F hr hg hm hkp hB .nil hp ha hdb he hpl) fun σ H Q ⟨Z, Γ, w, Q0, R, ht, hq⟩ => ⟨Z, Γ, w, _, R, ht, fun ps w1 vs H1 h1 e1 wr1 r1 => ?_⟩
  obtain ⟨hl, hf, h1⟩ := h1
  have B := R.bs.ext e1
  refine ⟨fun b => H b ≠ none, ps.map (·.2), fun d => Q0 .F d w1, Kx, fun b h => e1.dom b h, by simpa using hl, ?_, h1, fun d v H' hd g r => hq .F d w1 v H' hd (e1.trans (.same g)) ((R.step e1 wr1).wsame g) r, fun x cls d H' q hx => hk x cls d H1 H' q (R.ext.trans e1) hx⟩
  rw [List.append_nil]
  exact args_ok B (fun _ z => z.elim) r1 hf
theorem vlcX {tge iter elt : Expr} {ifs : List Expr} {it : IM C} {tt : BM C} {te : EM C} {scope : Scope} {own : List (Str × Nat)} {pos : Pos} (tg : Tg) (hvs : ∀ i ∈ tg.slots, i ∈ own.map (·.2)) (hc : X.calm = true) (hN : X.N.Nodup) (hst : X.stack = X.env :: X.outer) (hfr : X.env.frame = some X.env.locals) (hp : Out X C Kx E0) (hi : VI X C tge iter it) (ok : BlkOk X.N X.env.scope scope own)
    (hg : ∀ (s : Shared) (H : Hp) (Cc : Addr) (cl : List (Str × Addr)) (fp : List Addr), PG (X.blk s H scope (compEnvC scope cl Cc X.env) fp) tge (tg.g X.K)) (ht : ∀ (s : Shared) (H : Hp) (Cc : Addr) (cl : List (Str × Addr)) (fp : List Addr), PTs (X.blk s H scope (compEnvC scope cl Cc X.env) fp) ifs (lT C tt))
    (he : ∀ (s : Shared) (H : Hp) (Cc : Addr) (cl : List (Str × Addr)) (fp : List Addr), Passes (L2.CX X.prog X.w) ((X.blk s H scope (compEnvC scope cl Cc X.env) fp).wish (airE (X.blk s H scope (compEnvC scope cl Cc X.env) fp) E0)) E0 → (∀ (x : Xn) (cls : Value) (d : Option Addr) (H1 H' : Hp), Kx x → Ext C.W C.H0 H1 → XAt X.mg H1 x cls d H' → E0 cls d H') →
      VE ((X.blk s H scope (compEnvC scope cl Cc X.env) fp).wish (airE (X.blk s H scope (compEnvC scope cl Cc X.env) fp) E0)) C elt te)
    (hs : ∀ x, foldedSetIterable iter X.env x = pure x := by intro _; rfl) : VE X C (.ListComp elt [⟨tge, iter, ifs, 0⟩] scope pos) (lcM tg it tt te (own.map (·.2))) :=
  PEimp (pe_lcX hc hN hst hfr hp.2.1 hi ok hg ht (fun s H Cc cl fp => he s H Cc cl fp (fun pins σ H' s' e s'' I c => XE.of_call I.unwish (fun _ _ _ h => h) c) hp.2.2) hs) fun σ H Q h => lc_snd tg hvs h
end
end VS

/-! ### a text times a number -/
namespace VS
open PySem PySem.Spec PyProof.Rows L2
def rSMul : R2 := fun x y H Q => ∃ (a : Str) (k : Int), x = .str a ∧ y = .int k ∧ a.length ≤ 16 ∧ 0 ≤ k ∧ k ≤ 1000 ∧ Q (.str (Txt.mul a k)) H
theorem op_smul {X : Cx} : OpR X (binaryOp .Mult) rSMul := by
  intro pins s σ H x y v u Q I rx ry h
  obtain ⟨a, k, rfl, rfl, hl, h0, h1, q⟩ := h
  obtain ⟨t, rfl⟩ := rx
  obtain ⟨t2, rfl⟩ := ry
  exact SB.mul (mulOk_of 16 1048576 hl (by omega) (by omega) (by decide) (by decide)) fun t' kk => ⟨.str (Txt.mul a k), H, I.tok _, ⟨t', rfl⟩, q⟩
def mulSF : F2 := fun p q K => ∃ (a : Str) (k : Int), p.2 = .str a ∧ q.2 = .int k ∧ a.length ≤ 16 ∧ 0 ≤ k ∧ k ≤ 1000 ∧ K .F (.str (Txt.mul a k))
theorem s_smul {ω : Type} {C : Cn ω} : Snd2 C rSMul mulSF := by
  intro Z Γ w σ Hs H x y p q K Q R B r1 r2 h hq
  obtain ⟨m1, d1⟩ := p
  obtain ⟨m2, d2⟩ := q
  obtain ⟨a, k, rfl, rfl, h1, h2, h3, h⟩ := h
  exact ⟨a, k, r1.any B, r2.any B, h1, h2, h3, hq _ _ _ _ h (fun _ _ h => h) (RepM.flat (d := .str _) rfl)⟩
end VS

/-! # coins shared, in plain Lean -/
namespace Mx
abbrev at' (l : List Int) (i : Nat) : Int := l.getD i 0
def nxStep (am pd : List Int) (f : Int) (k : Nat) : Int :=
  if at' pd k < at' am k then (if f < 0 then (k : Int) else if at' pd k * at' am f.toNat < at' pd f.toNat * at' am k then (k : Int) else f) else f
def nxTo (am pd : List Int) : Nat → Int
  | 0 => -1
  | k + 1 => nxStep am pd (nxTo am pd k) k
def nx (am pd : List Int) : Int := nxTo am pd am.length
def inc (p : List Int) (k : Nat) : List Int := p.set k (at' p k + 1)
def grow (am p : List Int) : Nat → List Int
  | 0 => p
  | t + 1 => let q := grow am p t; inc q (nx am q).toNat
def zeros (n : Nat) : List Int := List.replicate n 0
def gr (am : List Int) (t : Nat) : List Int := grow am (zeros am.length) t
/-- what each gets of so many coins -/
def sh (am : List Int) (coins : Int) : List Int := gr am (min coins am.sum).toNat
theorem at_set (l : List Int) (k i : Nat) (x : Int) (h : k < l.length) : at' (l.set k x) i = if i = k then x else at' l i := by
  unfold at'
  rw [List.getD_eq_getElem?_getD, List.getD_eq_getElem?_getD]
  by_cases e : i = k
  · subst e; simp [h]
  · rw [if_neg e, List.getElem?_set_ne (Ne.symm e)]
theorem at_zeros (n i : Nat) : at' (zeros n) i = 0 := by
  unfold at' zeros
  rw [List.getD_eq_getElem?_getD, List.getElem?_replicate]
  split <;> rfl
theorem sum_zeros : ∀ n : Nat, (zeros n).sum = 0
  | 0 => rfl
  | n + 1 => by
    show ((0 : Int) :: zeros n).sum = 0
    rw [List.sum_cons, sum_zeros n]; rfl
theorem sum_set' : ∀ (l : List Int) (k : Nat) (x : Int), k < l.length → (l.set k x).sum = l.sum - at' l k + x
  | [], k, x, h => by simp at h
  | a :: l, 0, x, h => by
    show (x :: l).sum = (a :: l).sum - a + x
    rw [List.sum_cons, List.sum_cons]; omega
  | a :: l, k + 1, x, h => by
    have ih := sum_set' l k x (by simpa using h)
    show (a :: l.set k x).sum = (a :: l).sum - at' (a :: l) (k + 1) + x
    have e : at' (a :: l) (k + 1) = at' l k := by unfold at'; rfl
    rw [List.sum_cons, List.sum_cons, ih, e]; omega
theorem sum_le : ∀ (p q : List Int), p.length = q.length → (∀ i, i < p.length → at' p i ≤ at' q i) → p.sum ≤ q.sum
  | [], [], _, _ => Int.le_refl _
  | [], _ :: _, h, _ => by cases h
  | _ :: _, [], h, _ => by cases h
  | a :: p, b :: q, h, hi => by
    have ih := sum_le p q (by simpa using h) fun i hp => hi (i + 1) (by simpa using hp)
    have h0 : a ≤ b := hi 0 (by simp)
    rw [List.sum_cons, List.sum_cons]; omega
theorem eq_of_le : ∀ (p q : List Int), p.length = q.length → (∀ i, i < p.length → at' p i ≤ at' q i) → p.sum = q.sum → p = q
  | [], [], _, _, _ => rfl
  | [], _ :: _, h, _, _ => by cases h
  | _ :: _, [], h, _, _ => by cases h
  | a :: p, b :: q, h, hi, hs => by
    have hl : p.length = q.length := by simpa using h
    have ht : ∀ i, i < p.length → at' p i ≤ at' q i := fun i hp => hi (i + 1) (by simpa using hp)
    have h1 := sum_le p q hl ht
    have h0 : a ≤ b := hi 0 (by simp)
    rw [List.sum_cons, List.sum_cons] at hs
    have e : a = b := by omega
    rw [e, eq_of_le p q hl ht (by omega)]
theorem ext_at : ∀ (p q : List Int), p.length = q.length → (∀ i, i < p.length → at' p i = at' q i) → p = q
  | [], [], _, _ => rfl
  | [], _ :: _, h, _ => by cases h
  | _ :: _, [], h, _ => by cases h
  | a :: p, b :: q, h, hi => by
    have h0 : a = b := hi 0 (by simp)
    rw [h0, ext_at p q (by simpa using h) fun i hp => hi (i + 1) (by simpa using hp)]
/-! ### which amount is next -/
structure Nxt (am pd : List Int) (n : Nat) (f : Int) : Prop where
  none_ : f < 0 → f = -1 ∧ ∀ k, k < n → at' am k ≤ at' pd k
  some_ : 0 ≤ f → f.toNat < n ∧ at' pd f.toNat < at' am f.toNat ∧ ∀ k, k < n → at' pd k < at' am k → k ≠ f.toNat →
    at' pd f.toNat * at' am k < at' pd k * at' am f.toNat ∨ (at' pd f.toNat * at' am k = at' pd k * at' am f.toNat ∧ f.toNat < k)
theorem nxTo_ok {am pd : List Int} (ha : ∀ i, i < am.length → 0 < at' am i) (hp : ∀ i, i < am.length → 0 ≤ at' pd i) : ∀ n, n ≤ am.length → Nxt am pd n (nxTo am pd n)
  | 0, _ => ⟨fun _ => ⟨rfl, fun k h => absurd h (Nat.not_lt_zero k)⟩, fun h => absurd h (by show ¬ (0 : Int) ≤ -1; decide)⟩
  | n + 1, hn => by
    have ih := nxTo_ok ha hp n (by omega)
    show Nxt am pd (n + 1) (nxStep am pd (nxTo am pd n) n)
    generalize hf : nxTo am pd n = f at ih
    unfold nxStep
    by_cases h1 : at' pd n < at' am n
    · rw [if_pos h1]
      by_cases h2 : f < 0
      · rw [if_pos h2]
        obtain ⟨_, h3⟩ := ih.none_ h2
        refine ⟨fun h => by omega, fun _ => ?_⟩
        rw [Int.toNat_natCast]
        exact ⟨by omega, h1, fun k hk hlt hne => absurd hlt (by have := h3 k (by omega); omega)⟩
      · rw [if_neg h2]
        obtain ⟨g1, g2, g3⟩ := ih.some_ (by omega)
        by_cases h3 : at' pd n * at' am f.toNat < at' pd f.toNat * at' am n
        · rw [if_pos h3]
          refine ⟨fun h => by omega, fun _ => ?_⟩
          rw [Int.toNat_natCast]
          refine ⟨by omega, h1, fun k hk hlt hne => .inl ?_⟩
          by_cases hkf : k = f.toNat
          · rw [hkf]; exact h3
          · have q := g3 k (by omega) hlt hkf
            -- pd n / am n < pd f / am f ≤ pd k / am k
            have an := ha n (by omega)
            have af := ha f.toNat (by omega)
            have ak := ha k (by omega)
            have e1 : at' pd n * at' am f.toNat * at' am k < at' pd f.toNat * at' am n * at' am k := Int.mul_lt_mul_of_pos_right h3 ak
            have e2 : at' pd f.toNat * at' am k * at' am n ≤ at' pd k * at' am f.toNat * at' am n := Int.mul_le_mul_of_nonneg_right (by omega) (Int.le_of_lt an)
            have e3 : at' pd f.toNat * at' am n * at' am k = at' pd f.toNat * at' am k * at' am n := by rw [Int.mul_assoc, Int.mul_comm (at' am n), ← Int.mul_assoc]
            have e4 : at' pd n * at' am f.toNat * at' am k = (at' pd n * at' am k) * at' am f.toNat := by rw [Int.mul_assoc, Int.mul_comm (at' am f.toNat), ← Int.mul_assoc]
            have e5 : at' pd k * at' am f.toNat * at' am n = (at' pd k * at' am n) * at' am f.toNat := by rw [Int.mul_assoc, Int.mul_comm (at' am f.toNat), ← Int.mul_assoc]
            have : (at' pd n * at' am k) * at' am f.toNat < (at' pd k * at' am n) * at' am f.toNat := by omega
            exact Int.lt_of_mul_lt_mul_right this (Int.le_of_lt af)
        · rw [if_neg h3]
          refine ⟨fun h => absurd h h2, fun _ => ⟨by omega, g2, fun k hk hlt hne => ?_⟩⟩
          by_cases hkn : k = n
          · subst hkn
            by_cases heq : at' pd f.toNat * at' am k = at' pd k * at' am f.toNat
            · exact .inr ⟨heq, g1⟩
            · exact .inl (by omega)
          · exact g3 k (by omega) hlt hne
    · rw [if_neg h1]
      refine ⟨fun h => ?_, fun h => ?_⟩
      · obtain ⟨h2, h3⟩ := ih.none_ h
        exact ⟨h2, fun k hk => by
          by_cases hkn : k = n
          · subst hkn; omega
          · exact h3 k (by omega)⟩
      · obtain ⟨g1, g2, g3⟩ := ih.some_ h
        exact ⟨by omega, g2, fun k hk hlt hne => g3 k (by
          have : k ≠ n := fun z => by subst z; exact h1 hlt
          omega) hlt hne⟩
theorem nx_ok {am pd : List Int} (ha : ∀ i, i < am.length → 0 < at' am i) (hp : ∀ i, i < am.length → 0 ≤ at' pd i) : Nxt am pd am.length (nx am pd) := nxTo_ok ha hp _ (Nat.le_refl _)
/-! ### shares that stand after some coins -/
structure Good (am p : List Int) : Prop where
  len : p.length = am.length
  lo : ∀ i, i < am.length → 0 ≤ at' p i
  hi : ∀ i, i < am.length → at' p i ≤ at' am i
  lex : ∀ i j, i < am.length → j < am.length → i ≠ j → 0 < at' p i → (at' p i - 1) * at' am j < at' p j * at' am i ∨ ((at' p i - 1) * at' am j = at' p j * at' am i ∧ i < j)
theorem good_zeros {am : List Int} (ha : ∀ i, i < am.length → 0 < at' am i) : Good am (zeros am.length) where
  len := by simp [zeros]
  lo := fun i _ => by rw [at_zeros]; exact Int.le_refl _
  hi := fun i h => by rw [at_zeros]; exact Int.le_of_lt (ha i h)
  lex := fun i j _ _ _ h => by rw [at_zeros] at h; omega
theorem good_uniq {am p q : List Int} (ha : ∀ i, i < am.length → 0 < at' am i) (gp : Good am p) (gq : Good am q) (hs : p.sum = q.sum) : p = q := by
  have hl : p.length = q.length := gp.len.trans gq.len.symm
  by_cases h1 : ∀ i, i < p.length → at' p i ≤ at' q i
  · exact eq_of_le p q hl h1 hs
  · by_cases h2 : ∀ i, i < q.length → at' q i ≤ at' p i
    · exact (eq_of_le q p hl.symm h2 hs.symm).symm
    · exfalso
      have ⟨i, hi⟩ : ∃ i, i < p.length ∧ at' q i < at' p i := by
        apply Classical.byContradiction
        intro z
        exact h1 fun i hi => by
          apply Classical.byContradiction
          intro y
          exact z ⟨i, hi, by omega⟩
      have ⟨j, hj⟩ : ∃ j, j < q.length ∧ at' p j < at' q j := by
        apply Classical.byContradiction
        intro z
        exact h2 fun i hi => by
          apply Classical.byContradiction
          intro y
          exact z ⟨i, hi, by omega⟩
      have hin : i < am.length := by rw [← gp.len]; exact hi.1
      have hjn : j < am.length := by rw [← gq.len]; exact hj.1
      have hne : i ≠ j := fun z => by subst z; omega
      have l1 := gp.lex i j hin hjn hne (by have := gq.lo i hin; omega)
      have l2 := gq.lex j i hjn hin (Ne.symm hne) (by have := gp.lo j hjn; omega)
      have m1 : at' q i * at' am j ≤ (at' p i - 1) * at' am j := Int.mul_le_mul_of_nonneg_right (by omega) (Int.le_of_lt (ha j hjn))
      have m2 : at' p j * at' am i ≤ (at' q j - 1) * at' am i := Int.mul_le_mul_of_nonneg_right (by omega) (Int.le_of_lt (ha i hin))
      omega
theorem exists_room {am p : List Int} (g : Good am p) (hs : p.sum < am.sum) : ∃ k, k < am.length ∧ at' p k < at' am k := by
  apply Classical.byContradiction
  intro z
  have : am.sum ≤ p.sum := sum_le am p g.len.symm fun i hi => by
    apply Classical.byContradiction
    intro y
    exact z ⟨i, hi, by omega⟩
  omega
theorem good_nx {am p : List Int} (ha : ∀ i, i < am.length → 0 < at' am i) (g : Good am p) (hs : p.sum < am.sum) : 0 ≤ nx am p ∧ (nx am p).toNat < am.length ∧ Good am (inc p (nx am p).toNat) ∧ (inc p (nx am p).toNat).sum = p.sum + 1 := by
  have N := nx_ok ha g.lo
  have h0 : 0 ≤ nx am p := by
    apply Classical.byContradiction
    intro z
    obtain ⟨k, hk, hlt⟩ := exists_room g hs
    have := (N.none_ (by omega)).2 k hk
    omega
  obtain ⟨n1, n2, n3⟩ := N.some_ h0
  generalize hj : (nx am p).toNat = j at *
  have hjl : j < p.length := by rw [g.len]; exact n1
  have at_inc : ∀ i, at' (inc p j) i = if i = j then at' p j + 1 else at' p i := fun i => by unfold inc; exact at_set p j i _ hjl
  refine ⟨h0, n1, ⟨by unfold inc; simp [g.len], fun i hi => ?_, fun i hi => ?_, fun i k hi hk hne hpos => ?_⟩, ?_⟩
  · rw [at_inc]; have := g.lo i hi; have := g.lo j n1; split <;> omega
  · rw [at_inc]; have := g.hi i hi; split
    · rename_i e; subst e; omega
    · omega
  · rw [at_inc, at_inc] at *
    by_cases hij : i = j
    · subst hij
      rw [if_pos rfl] at hpos ⊢
      rw [if_neg (Ne.symm hne)]
      have e : at' p i + 1 - 1 = at' p i := by omega
      rw [e]
      by_cases hk2 : at' p k < at' am k
      · exact n3 k hk hk2 (Ne.symm hne)
      · have hk3 : at' p k = at' am k := by have := g.hi k hk; omega
        left
        rw [hk3, Int.mul_comm (at' am k)]
        exact Int.mul_lt_mul_of_pos_right n2 (ha k hk)
    · rw [if_neg hij] at hpos ⊢
      by_cases hkj : k = j
      · subst hkj
        rw [if_pos rfl]
        have q := g.lex i k hi hk hne hpos
        have e : (at' p k + 1) * at' am i = at' p k * at' am i + at' am i := by rw [Int.add_mul, Int.one_mul]
        rw [e]
        have := ha i hi
        left; omega
      · rw [if_neg hkj]
        exact g.lex i k hi hk hne hpos
  · unfold inc
    rw [sum_set' p j _ hjl]; omega
theorem good_grow {am p : List Int} (ha : ∀ i, i < am.length → 0 < at' am i) (g : Good am p) : ∀ t : Nat, p.sum + t ≤ am.sum → Good am (grow am p t) ∧ (grow am p t).sum = p.sum + t
  | 0, _ => ⟨g, by show p.sum = p.sum + 0; omega⟩
  | t + 1, h => by
    obtain ⟨g1, s1⟩ := good_grow ha g t (by omega)
    obtain ⟨_, _, g2, s2⟩ := good_nx ha g1 (by rw [s1]; omega)
    exact ⟨g2, by show (inc _ _).sum = _; rw [s2, s1]; omega⟩
theorem good_sh {am : List Int} (ha : ∀ i, i < am.length → 0 < at' am i) {c : Int} (h0 : 0 ≤ c) : Good am (sh am c) ∧ (sh am c).sum = min c am.sum := by
  have hs : 0 ≤ am.sum := by
    have := sum_le (zeros am.length) am (by simp [zeros]) fun i hi => by rw [at_zeros]; exact Int.le_of_lt (ha i (by simpa [zeros] using hi))
    rw [sum_zeros] at this; exact this
  obtain ⟨g, s⟩ := good_grow ha (good_zeros ha) (min c am.sum).toNat (by rw [sum_zeros]; omega)
  refine ⟨g, ?_⟩
  show (grow _ _ _).sum = _
  rw [s, sum_zeros]; omega
theorem good_all {am : List Int} (ha : ∀ i, i < am.length → 0 < at' am i) : Good am am where
  len := rfl
  lo := fun i h => Int.le_of_lt (ha i h)
  hi := fun i _ => Int.le_refl _
  lex := fun i j hi hj _ _ => .inl (by
    have e : at' am j * at' am i = at' am i * at' am j := Int.mul_comm _ _
    rw [e]
    exact Int.mul_lt_mul_of_pos_right (by omega) (ha j hj))
theorem sh_all {am : List Int} (ha : ∀ i, i < am.length → 0 < at' am i) {c : Int} (h0 : 0 ≤ c) (h : am.sum ≤ c) : sh am c = am := by
  obtain ⟨g, s⟩ := good_sh ha h0
  exact good_uniq ha g (good_all ha) (by rw [s]; omega)
theorem sh_of_good {am p : List Int} (ha : ∀ i, i < am.length → 0 < at' am i) {c : Int} (h0 : 0 ≤ c) (hc : c ≤ am.sum) (g : Good am p) (hs : p.sum = c) : sh am c = p := by
  obtain ⟨g', s⟩ := good_sh ha h0
  exact good_uniq ha g' g (by rw [s, hs]; omega)
/-! ### all parts at once -/
def ahead (am : List Int) (c : Int) : Int := if c - am.length > 0 then c - am.length else 0
def part (whole ahead a : Int) : Int := (a * ahead + whole - 1) / whole
theorem at_map (f : Int → Int) (l : List Int) (i : Nat) (h : i < l.length) : at' (l.map f) i = f (at' l i) := by
  unfold at'
  rw [List.getD_eq_getElem?_getD, List.getD_eq_getElem?_getD, List.getElem?_map, List.getElem?_eq_getElem h]
  rfl
theorem part_ok {W A a : Int} (hW : 0 < W) : a * A ≤ part W A a * W ∧ part W A a * W ≤ a * A + W - 1 := by
  unfold part
  generalize hx : a * A + W - 1 = x
  have h1 := Int.mul_ediv_add_emod x W
  have h2 := Int.emod_nonneg x (by omega : W ≠ 0)
  have h3 := Int.emod_lt_of_pos x hW
  rw [Int.mul_comm W] at h1
  omega
theorem sum_part {W A : Int} (hW : 0 < W) : ∀ l : List Int, (l.map (part W A)).sum * W ≤ l.sum * A + l.length * (W - 1)
  | [] => by simp
  | a :: l => by
    have ih := sum_part (A := A) hW l
    have h := (part_ok (A := A) (a := a) hW).2
    rw [List.map_cons, List.sum_cons, List.sum_cons, List.length_cons, Int.add_mul, Int.add_mul]
    have e : ((l.length + 1 : Nat) : Int) * (W - 1) = l.length * (W - 1) + (W - 1) := by rw [Int.natCast_add, Int.add_mul]; simp
    rw [e]; omega
theorem good_part {am : List Int} (ha : ∀ i, i < am.length → 0 < at' am i) {c : Int} (h0 : 0 ≤ c) (hc : c < am.sum) : Good am (am.map (part am.sum (ahead am c))) ∧ (am.map (part am.sum (ahead am c))).sum ≤ c := by
  have hW : 0 < am.sum := by omega
  have hA0 : 0 ≤ ahead am c := by unfold ahead; split <;> omega
  have hA1 : ahead am c ≤ am.sum := by unfold ahead; split <;> omega
  generalize hA : ahead am c = A at *
  generalize hw : am.sum = W at *
  refine ⟨⟨by simp, fun i hi => ?_, fun i hi => ?_, fun i j hi hj _ _ => .inl ?_⟩, ?_⟩
  · rw [at_map _ _ _ hi]
    unfold part
    have : 0 ≤ at' am i * A := Int.mul_nonneg (Int.le_of_lt (ha i hi)) hA0
    exact Int.ediv_nonneg (by omega) (by omega)
  · rw [at_map _ _ _ hi]
    have h := (part_ok (A := A) (a := at' am i) hW).2
    have h1 : at' am i * A ≤ at' am i * W := Int.mul_le_mul_of_nonneg_left hA1 (Int.le_of_lt (ha i hi))
    apply Classical.byContradiction
    intro z
    have h2 : (at' am i + 1) * W ≤ part W A (at' am i) * W := Int.mul_le_mul_of_nonneg_right (by omega) (by omega)
    rw [Int.add_mul] at h2
    omega
  · rw [at_map _ _ _ hi, at_map _ _ _ hj]
    have h1 := (part_ok (A := A) (a := at' am i) hW).2
    have h2 := (part_ok (A := A) (a := at' am j) hW).1
    generalize part W A (at' am i) = u at *
    generalize part W A (at' am j) = v at *
    have ai := ha i hi
    have aj := ha j hj
    generalize at' am i = x at *
    generalize at' am j = y at *
    have h3 : (u - 1) * W < x * A := by rw [Int.sub_mul]; omega
    have h4 : (u - 1) * W * y < x * A * y := Int.mul_lt_mul_of_pos_right h3 aj
    have h5 : y * A * x ≤ v * W * x := Int.mul_le_mul_of_nonneg_right h2 (Int.le_of_lt ai)
    have e1 : (u - 1) * W * y = (u - 1) * y * W := by rw [Int.mul_assoc, Int.mul_comm W, ← Int.mul_assoc]
    have e2 : v * W * x = v * x * W := by rw [Int.mul_assoc, Int.mul_comm W, ← Int.mul_assoc]
    have e3 : x * A * y = y * A * x := by rw [Int.mul_comm x A, Int.mul_comm y A, Int.mul_assoc, Int.mul_assoc, Int.mul_comm x y]
    have : (u - 1) * y * W < v * x * W := by omega
    exact Int.lt_of_mul_lt_mul_right this (by omega)
  · have h := sum_part (A := A) hW am
    rw [hw] at h
    apply Classical.byContradiction
    intro z
    have hn : 0 < am.length := by
      cases am with
      | nil => rw [← hw] at hc; simp at hc; omega
      | cons a l => simp
    by_cases hA2 : c - am.length > 0
    · have eA : A = c - am.length := by rw [← hA]; unfold ahead; rw [if_pos hA2]
      have h2 : (c + 1) * W ≤ (am.map (part W A)).sum * W := Int.mul_le_mul_of_nonneg_right (by omega) (by omega)
      have e1 : (c + 1) * W = c * W + W := by rw [Int.add_mul, Int.one_mul]
      have e2 : W * A = c * W - am.length * W := by rw [eA, Int.mul_sub, Int.mul_comm W c, Int.mul_comm W]
      have e3 : (am.length : Int) * (W - 1) = am.length * W - am.length := by rw [Int.mul_sub, Int.mul_one]
      omega
    · have eA : A = 0 := by rw [← hA]; unfold ahead; rw [if_neg hA2]
      have hp : ∀ a, part W A a = 0 := fun a => by
        unfold part
        rw [eA, Int.mul_zero]
        exact Int.ediv_eq_zero_of_lt (by omega) (by omega)
      have hz : ∀ l : List Int, (l.map (part W A)).sum = 0 := fun l => by
        induction l with
        | nil => rfl
        | cons a l ih => rw [List.map_cons, List.sum_cons, ih, hp]; rfl
      rw [hz] at z; omega
/-- all parts at once, then coin by coin: the same -/
theorem sh_eq {am : List Int} (ha : ∀ i, i < am.length → 0 < at' am i) {c : Int} (h0 : 0 ≤ c) (hc : c < am.sum) :
    sh am c = grow am (am.map (part am.sum (ahead am c))) (c - (am.map (part am.sum (ahead am c))).sum).toNat := by
  obtain ⟨g, s⟩ := good_part ha h0 hc
  obtain ⟨g2, s2⟩ := good_grow ha g (c - (am.map (part am.sum (ahead am c))).sum).toNat (by omega)
  exact sh_of_good ha h0 (by omega) g2 (by rw [s2]; omega)
end Mx

namespace VS
open PySem PySem.Spec PyProof.Rows L2
open Mx (at' nx nxTo nxStep inc grow zeros gr sh part ahead)
/-! ### sharing: what the defs tell -/
def Sm (i : Int) : Prop := -(2 ^ 64) < i ∧ i < 2 ^ 64
def p_is_less_paid : PD := fun ds K => ∃ a b c d : Int, ds = [.int a, .int b, .int c, .int d] ∧ Sm b ∧ Sm d ∧ K (.bl (decide (a * d < c * b)))
def p_next_of : PD := fun ds K => ∃ am pd : List Int, ds = [.lst (am.map D.int), .lst (pd.map D.int)] ∧ pd.length = am.length ∧ am.length ≤ 1000 ∧ (∀ i, i < am.length → Sm (at' am i)) ∧ K (.int (nx am pd))
def AmOk (am : List Int) : Prop := am.length ≤ 1000 ∧ ∀ i, i < am.length → 0 < at' am i ∧ at' am i ≤ 100000
def p_shared : PD := fun ds K => ∃ (am : List Int) (c : Int), ds = [.lst (am.map D.int), .int c] ∧ AmOk am ∧ 0 ≤ c ∧ c ≤ 1000000 ∧ K (.lst ((sh am c).map D.int))
abbrev p_l_first : PD := p_next_of
abbrev p_l_shared : PD := p_shared
theorem AmOk.sm {am : List Int} (h : AmOk am) : ∀ i, i < am.length → Sm (at' am i) := fun i hi => by have := h.2 i hi; unfold Sm; omega
theorem AmOk.pos {am : List Int} (h : AmOk am) : ∀ i, i < am.length → 0 < at' am i := fun i hi => (h.2 i hi).1
theorem sum_hi : ∀ (l : List Int) (b : Int), (∀ i, i < l.length → at' l i ≤ b) → l.sum ≤ l.length * b
  | [], b, _ => by simp
  | a :: l, b, h => by
    have ih := sum_hi l b fun i hi => h (i + 1) (by simpa using hi)
    have h0 : a ≤ b := h 0 (by simp)
    rw [List.sum_cons, List.length_cons]
    have e : ((l.length + 1 : Nat) : Int) * b = l.length * b + b := by rw [Int.natCast_add, Int.add_mul]; simp
    rw [e]; omega
theorem AmOk.sum {am : List Int} (h : AmOk am) : 0 ≤ am.sum ∧ am.sum ≤ 100000000 := by
  constructor
  · have := Mx.sum_le (zeros am.length) am (by simp [zeros]) fun i hi => by rw [Mx.at_zeros]; exact Int.le_of_lt (h.pos i (by simpa [zeros] using hi))
    rw [Mx.sum_zeros] at this; exact this
  · have h1 := sum_hi am 100000 fun i hi => (h.2 i hi).2
    have h2 : (am.length : Int) * 100000 ≤ 1000 * 100000 := Int.mul_le_mul_of_nonneg_right (by have := h.1; omega) (by decide)
    omega
theorem AmOk.sum_pos {am : List Int} (h : AmOk am) (hn : am ≠ []) : 0 < am.sum := by
  cases am with
  | nil => exact absurd rfl hn
  | cons a l =>
    have h0 : 0 < a := h.pos 0 (by simp)
    have hl : 0 ≤ l.sum := by
      have := Mx.sum_le (zeros l.length) l (by simp [zeros]) fun i hi => by rw [Mx.at_zeros]; exact Int.le_of_lt (h.pos (i + 1) (by simpa [zeros] using hi))
      rw [Mx.sum_zeros] at this; exact this
    rw [List.sum_cons]; omega
theorem nxTo_lo (am pd : List Int) : ∀ n, -1 ≤ nxTo am pd n ∧ nxTo am pd n < n
  | 0 => ⟨by show (-1 : Int) ≤ -1; decide, by show (-1 : Int) < 0; decide⟩
  | n + 1 => by
    have ih := nxTo_lo am pd n
    show -1 ≤ nxStep am pd (nxTo am pd n) n ∧ nxStep am pd (nxTo am pd n) n < ((n + 1 : Nat) : Int)
    unfold nxStep
    split
    · split
      · omega
      · split <;> omega
    · omega
/-! is_less_paid -/
def m_is_less_paid {ω : Type} (C : Cn ω) : SM C :=
  (retM (binM ltF (binM mulF (nameM 0) (nameM 3)) (binM mulF (nameM 2) (nameM 1))))
abbrev c_is_less_paid {ω : Type} {C : Cn ω} (ts : AM C) : EM C := callD 4 [] p_is_less_paid ts

theorem r_is_less_paid {ω : Type} {C : Cn ω} (ds : List D) (Kp : D → Prop) (hl : ds.length = 4) (hp : p_is_less_paid ds Kp) (w : ω) : m_is_less_paid C ⟨fun _ _ => Kp .non, fun d _ => Kp d, fun _ _ => False, fun _ _ => False⟩ (startG 4 [] ds) w := by
  obtain ⟨a, b, c, d, rfl, hb, hd, hk⟩ := hp
  exact ⟨.inr hd, .inr hb, rfl, rfl, hk⟩
/-! next_of -/
def m_next_of {ω : Type} (C : Cn ω) : SM C :=
  (seqM (asgM (.nm 2) (negM (constM (.int 1))))
  (seqM (forM (.nm 3) (iterR1 (consA (callM lenF (consA (nameM 0) nilA)) nilA)) (ifM (testM (binM ltF (binM ixF (nameM 1) (nameM 3)) (binM ixF (nameM 0) (nameM 3)))) (ifM (orM (testM (binM ltF (nameM 2) (constM (.int 0)))) (testM (c_is_less_paid (consA (binM ixF (nameM 1) (nameM 3)) (consA (binM ixF (nameM 0) (nameM 3)) (consA (binM ixF (nameM 1) (nameM 2)) (consA (binM ixF (nameM 0) (nameM 2)) nilA))))))) (asgM (.nm 2) (nameM 3)) nextM) nextM))
  (retM (nameM 2))))
abbrev c_next_of {ω : Type} {C : Cn ω} (ts : AM C) : EM C := callD 2 [] p_next_of ts

theorem r_next_of {ω : Type} {C : Cn ω} (ds : List D) (Kp : D → Prop) (hl : ds.length = 2) (hp : p_next_of ds Kp) (w : ω) : m_next_of C ⟨fun _ _ => Kp .non, fun d _ => Kp d, fun _ _ => False, fun _ _ => False⟩ (startG 4 [] ds) w := by
  obtain ⟨am, pd, rfl, hlen, hn, hsm, hk⟩ := hp
  refine ⟨_, rfl, rfl, _, _, rfl, ?_, ?_, rfl, ?_⟩
  · simp
  · simp; omega
  refine loop_by (fun k Γ w => k ≤ am.length ∧ ∃ s, Γ = [.val false (.lst (am.map D.int)), .val false (.lst (pd.map D.int)), .val true (.int (nxTo am pd k)), s]) (fun k d Γ w N hd hI hN => ?_) (fun Γ w hI => ?_) ⟨Nat.zero_le _, _, rfl⟩
  · obtain ⟨hk1, s, rfl⟩ := hI
    obtain ⟨rfl, hk2⟩ := rng_get hd
    rw [List.length_map] at hk2
    have hkn : k < am.length := by omega
    have i1 : atI (pd.map D.int) (0 + (k : Int)) = some (.int (at' pd k)) := by
      have := at_ints (ns := pd) (i := 0 + (k : Int)) (by omega) (by omega)
      rw [show (0 + (k : Int)).toNat = k by omega] at this; exact this
    have i2 : atI (am.map D.int) (0 + (k : Int)) = some (.int (at' am k)) := by
      have := at_ints (ns := am) (i := 0 + (k : Int)) (by omega) (by omega)
      rw [show (0 + (k : Int)).toNat = k by omega] at this; exact this
    have e0 : (0 : Int) + (k : Int) = (k : Int) := by omega
    obtain ⟨f1, f2⟩ := nxTo_lo am pd k
    have step : nxTo am pd (k + 1) = nxStep am pd (nxTo am pd k) k := rfl
    refine ⟨_, i1, _, i2, _, rfl, ite2 (fun h1 => ?_) (fun h1 => ?_)⟩
    · have h1 := of_decide_eq_true h1
      refine ⟨_, rfl, ?_⟩
      refine ite2 (fun h2 => ?_) (fun h2 => ?_)
      · have h2 := of_decide_eq_true h2
        refine iteT ⟨rfl, hN _ _ ⟨hkn, .val true (.int (0 + (k : Int))), ?_⟩⟩
        rw [step]; unfold nxStep
        rw [if_pos h1, if_pos h2, e0]; rfl
      · have h2 : ¬ nxTo am pd k < 0 := fun z => h2 (decide_eq_true z)
        have i3 : atI (pd.map D.int) (nxTo am pd k) = some (.int (at' pd (nxTo am pd k).toNat)) := at_ints (by omega) (by omega)
        have i4 : atI (am.map D.int) (nxTo am pd k) = some (.int (at' am (nxTo am pd k).toNat)) := at_ints (by omega) (by omega)
        refine ⟨_, i1, _, i2, _, i3, _, i4, rfl, rfl, _, _, _, _, rfl, hsm k hkn, hsm _ (by omega), _, rfl, ite2 (fun h3 => ?_) (fun h3 => ?_)⟩
        · have h3 := of_decide_eq_true h3
          refine ⟨rfl, hN _ _ ⟨hkn, .val true (.int (0 + (k : Int))), ?_⟩⟩
          rw [step]; unfold nxStep
          rw [if_pos h1, if_neg h2, if_pos h3, e0]; rfl
        · have h3 := fun z => h3 (decide_eq_true z)
          refine hN _ _ ⟨hkn, .val true (.int (0 + (k : Int))), ?_⟩
          rw [step]; unfold nxStep
          rw [if_pos h1, if_neg h2, if_neg h3]; rfl
    · have h1 := fun z => h1 (decide_eq_true z)
      refine hN _ _ ⟨hkn, .val true (.int (0 + (k : Int))), ?_⟩
      rw [step]; unfold nxStep
      rw [if_neg h1]; rfl
  · obtain ⟨_, s, rfl⟩ := hI
    rw [rng_len, List.length_map, show (((am.length : Int)) - 0).toNat = am.length by omega]
    exact ⟨rfl, rfl, hk⟩
theorem grow_len (am p : List Int) : ∀ t, (grow am p t).length = p.length
  | 0 => rfl
  | t + 1 => by show (inc _ _).length = _; unfold inc; rw [List.length_set, grow_len am p t]
theorem map_part (W A : Int) (l : List Int) (g : D → D) (hg : ∀ a, g (.int a) = .int (part W A a)) : (l.map D.int).map g = (l.map (part W A)).map D.int := by
  rw [List.map_map, List.map_map]
  exact List.map_congr_left fun a _ => hg a
theorem mem_at {am : List Int} {a : Int} (h : a ∈ am) : ∃ i, i < am.length ∧ at' am i = a := by
  obtain ⟨i, hi, e⟩ := List.getElem_of_mem h
  exact ⟨i, hi, by unfold at'; rw [List.getD_eq_getElem?_getD, List.getElem?_eq_getElem hi, e]; rfl⟩
/-- one coin more: the row that shared and the law's own both hold -/
theorem coin_step {am p : List Int} (hp : p.length = am.length) (h0 : 0 ≤ nx am p) (h1 : (nx am p).toNat < am.length) :
    atI (p.map D.int) (nx am p) = some (.int (at' p (nx am p).toNat)) ∧ ixN (p.map D.int).length (nx am p) = some (nx am p).toNat ∧ (p.map D.int).set (nx am p).toNat (.int (at' p (nx am p).toNat + 1)) = (inc p (nx am p).toNat).map D.int :=
  ⟨at_ints h0 (by omega), ixN_ok h0 (by rw [List.length_map]; omega), by unfold inc; rw [List.map_set]⟩
/-! shared -/
def m_shared {ω : Type} (C : Cn ω) : SM C :=
  (seqM (asgM (.nm 2) (callM sumF (consA (nameM 0) nilA)))
  (seqM (ifM (testM (binM geF (nameM 1) (nameM 2))) (retM (callM listF (consA (nameM 0) nilA))) nextM)
  (seqM (asgM (.nm 3) (callM mxF (consA (constM (.int 0)) (consA (binM subF (nameM 1) (callM lenF (consA (nameM 0) nilA))) nilA))))
  (seqM (ownM 4 (lcM (.nm 7) (iterL (nameM 0)) yesM (binM divF (binM subF (binM addF (binM mulF (nameM 7) (nameM 3)) (nameM 2)) (constM (.int 1))) (nameM 2)) [7]))
  (seqM (forM (.nm 5) (iterR1 (consA (binM subF (nameM 1) (callM sumF (consA (nameM 4) nilA))) nilA)) (seqM (asgM (.nm 6) (c_next_of (consA (nameM 0) (consA (nameM 4) nilA))))
  (setM 4 (nameM 6) (binM addF (binM ixF (nameM 4) (nameM 6)) (constM (.int 1))))))
  (frzM 4 (retM (nameM 4))))))))
abbrev c_shared {ω : Type} {C : Cn ω} (ts : AM C) : EM C := callD 2 [] p_shared ts

theorem r_shared {ω : Type} {C : Cn ω} (ds : List D) (Kp : D → Prop) (hl : ds.length = 2) (hp : p_shared ds Kp) (w : ω) : m_shared C ⟨fun _ _ => Kp .non, fun d _ => Kp d, fun _ _ => False, fun _ _ => False⟩ (startG 8 [] ds) w := by
  obtain ⟨am, c, rfl, ha, h0, hc, hk⟩ := hp
  obtain ⟨s0, s1⟩ := ha.sum
  refine ⟨_, am, rfl, rfl, _, rfl, ite2 (fun h => ?_) (fun h => ?_)⟩
  · have h := of_decide_eq_true h
    refine ⟨by rw [nmL_ints]; rfl, by rw [nmL_ints]; rfl, ?_⟩
    rw [← Mx.sh_all ha.pos h0 h]; exact hk
  · have h : c < am.sum := by
      have : ¬ am.sum ≤ c := fun z => h (decide_eq_true z)
      omega
    have hA : -1 < ahead am c ∧ ahead am c ≤ 1000000 := by unfold ahead; split <;> omega
    refine ⟨rfl, ?_⟩
    rw [List.length_map]
    refine ⟨_, rfl, rfl, lc_map (fun d => match d with | .int a => .int (part am.sum (ahead am c) a) | d => d) (fun d hd => ?_) (by rw [List.length_map]; have := ha.1; omega) (fun d hd N hN => ?_) ⟨rfl, rfl, ?_⟩⟩
    · obtain ⟨a, _, rfl⟩ := List.mem_map.mp hd; rfl
    · obtain ⟨a, _, rfl⟩ := List.mem_map.mp hd
      exact ⟨.inr (by show -(2 ^ 64) < ahead am c ∧ ahead am c < 2 ^ 64; omega), ⟨by omega, by omega⟩, hN _ rfl⟩
    rw [map_part _ _ _ _ fun a => rfl]
    obtain ⟨g, gs⟩ := Mx.good_part ha.pos h0 h
    have hps : 0 ≤ (am.map (part am.sum (ahead am c))).sum := by
      have := Mx.sum_le (zeros am.length) (am.map (part am.sum (ahead am c))) (by simp [zeros]) fun i hi => by rw [Mx.at_zeros]; exact g.lo i (by simpa [zeros] using hi)
      rw [Mx.sum_zeros] at this; exact this
    have hsh := Mx.sh_eq ha.pos h0 h
    generalize hp0 : am.map (part am.sum (ahead am c)) = p0 at *
    refine ⟨_, p0, rfl, _, _, rfl, by omega, by omega, rfl, ?_⟩
    refine loop_by (fun k Γ w => k ≤ (c - p0.sum).toNat ∧ ∃ s5 s6 s7, Γ = [.val false (.lst (am.map D.int)), .val true (.int c), .val true (.int am.sum), .val true (.int (ahead am c)), .own (.lst ((grow am p0 k).map D.int)), s5, s6, s7]) (fun k d Γ w N hd hI hN => ?_) (fun Γ w hI => ?_) ⟨Nat.zero_le _, _, _, _, rfl⟩
    · obtain ⟨hk1, s5, s6, s7, rfl⟩ := hI
      obtain ⟨rfl, hk2⟩ := rng_get hd
      obtain ⟨gk, sk⟩ := Mx.good_grow ha.pos g k (by omega)
      obtain ⟨n0, n1, _, _⟩ := Mx.good_nx ha.pos gk (by omega)
      obtain ⟨c1, c2, c3⟩ := coin_step gk.len n0 n1
      refine ⟨rfl, rfl, am, grow am p0 k, rfl, gk.len, ha.1, ha.sm, rfl, _, c1, rfl, rfl, _, rfl, _, _, rfl, c2, ?_⟩
      rw [c3]
      exact hN _ _ ⟨by omega, _, _, _, rfl⟩
    · obtain ⟨_, s5, s6, s7, rfl⟩ := hI
      rw [rng_len, show (c - p0.sum - 0).toNat = (c - p0.sum).toNat by omega, ← hsh]
      exact ⟨rfl, rfl, hk⟩
/-! l_first -/
def m_l_first {ω : Type} (C : Cn ω) : SM C :=
  (seqM (asgM (.nm 2) (negM (constM (.int 1))))
  (seqM (forM (.nm 3) (iterR1 (consA (callM lenF (consA (nameM 0) nilA)) nilA)) (ifM (testM (binM ltF (binM ixF (nameM 1) (nameM 3)) (binM ixF (nameM 0) (nameM 3)))) (ifM (testM (binM ltF (nameM 2) (constM (.int 0)))) (asgM (.nm 2) (nameM 3)) (ifM (testM (binM ltF (binM mulF (binM ixF (nameM 1) (nameM 3)) (binM ixF (nameM 0) (nameM 2))) (binM mulF (binM ixF (nameM 1) (nameM 2)) (binM ixF (nameM 0) (nameM 3))))) (asgM (.nm 2) (nameM 3)) nextM)) nextM))
  (retM (nameM 2))))
abbrev c_l_first {ω : Type} {C : Cn ω} (ts : AM C) : EM C := callD 2 [] p_l_first ts

theorem r_l_first {ω : Type} {C : Cn ω} (ds : List D) (Kp : D → Prop) (hl : ds.length = 2) (hp : p_l_first ds Kp) (w : ω) : m_l_first C ⟨fun _ _ => Kp .non, fun d _ => Kp d, fun _ _ => False, fun _ _ => False⟩ (startG 4 [] ds) w := by
  obtain ⟨am, pd, rfl, hlen, hn, hsm, hk⟩ := hp
  refine ⟨_, rfl, rfl, _, _, rfl, ?_, ?_, rfl, ?_⟩
  · simp
  · simp; omega
  refine loop_by (fun k Γ w => k ≤ am.length ∧ ∃ s, Γ = [.val false (.lst (am.map D.int)), .val false (.lst (pd.map D.int)), .val true (.int (nxTo am pd k)), s]) (fun k d Γ w N hd hI hN => ?_) (fun Γ w hI => ?_) ⟨Nat.zero_le _, _, rfl⟩
  · obtain ⟨hk1, s, rfl⟩ := hI
    obtain ⟨rfl, hk2⟩ := rng_get hd
    rw [List.length_map] at hk2
    have hkn : k < am.length := by omega
    have i1 : atI (pd.map D.int) (0 + (k : Int)) = some (.int (at' pd k)) := by
      have := at_ints (ns := pd) (i := 0 + (k : Int)) (by omega) (by omega)
      rw [show (0 + (k : Int)).toNat = k by omega] at this; exact this
    have i2 : atI (am.map D.int) (0 + (k : Int)) = some (.int (at' am k)) := by
      have := at_ints (ns := am) (i := 0 + (k : Int)) (by omega) (by omega)
      rw [show (0 + (k : Int)).toNat = k by omega] at this; exact this
    have e0 : (0 : Int) + (k : Int) = (k : Int) := by omega
    obtain ⟨f1, f2⟩ := nxTo_lo am pd k
    have step : nxTo am pd (k + 1) = nxStep am pd (nxTo am pd k) k := rfl
    refine ⟨_, i1, _, i2, _, rfl, ite2 (fun h1 => ?_) (fun h1 => ?_)⟩
    · have h1 := of_decide_eq_true h1
      refine ⟨_, rfl, ?_⟩
      refine ite2 (fun h2 => ?_) (fun h2 => ?_)
      · have h2 := of_decide_eq_true h2
        refine ⟨rfl, hN _ _ ⟨hkn, .val true (.int (0 + (k : Int))), ?_⟩⟩
        rw [step]; unfold nxStep
        rw [if_pos h1, if_pos h2, e0]; rfl
      · have h2 : ¬ nxTo am pd k < 0 := fun z => h2 (decide_eq_true z)
        have i3 : atI (pd.map D.int) (nxTo am pd k) = some (.int (at' pd (nxTo am pd k).toNat)) := at_ints (by omega) (by omega)
        have i4 : atI (am.map D.int) (nxTo am pd k) = some (.int (at' am (nxTo am pd k).toNat)) := at_ints (by omega) (by omega)
        refine ⟨_, i1, _, i4, .inr (hsm _ (by omega)), _, i3, _, i2, .inr (hsm k hkn), _, rfl, ite2 (fun h3 => ?_) (fun h3 => ?_)⟩
        · have h3 := of_decide_eq_true h3
          refine ⟨rfl, hN _ _ ⟨hkn, .val true (.int (0 + (k : Int))), ?_⟩⟩
          rw [step]; unfold nxStep
          rw [if_pos h1, if_neg h2, if_pos h3, e0]; rfl
        · have h3 := fun z => h3 (decide_eq_true z)
          refine hN _ _ ⟨hkn, .val true (.int (0 + (k : Int))), ?_⟩
          rw [step]; unfold nxStep
          rw [if_pos h1, if_neg h2, if_neg h3]; rfl
    · have h1 := fun z => h1 (decide_eq_true z)
      refine hN _ _ ⟨hkn, .val true (.int (0 + (k : Int))), ?_⟩
      rw [step]; unfold nxStep
      rw [if_neg h1]; rfl
  · obtain ⟨_, s, rfl⟩ := hI
    rw [rng_len, List.length_map, show (((am.length : Int)) - 0).toNat = am.length by omega]
    exact ⟨rfl, rfl, hk⟩
theorem rep_zero (n : Nat) : (List.replicate n [D.int 0]).flatten = (zeros n).map D.int := by
  induction n with
  | zero => rfl
  | succ n ih => rw [List.replicate_succ, List.flatten_cons, ih]; rfl
/-! l_shared -/
def m_l_shared {ω : Type} (C : Cn ω) : SM C :=
  (seqM (ownM 2 (binM mulF (lstM (consA (constM (.int 0)) nilA)) (callM lenF (consA (nameM 0) nilA))))
  (seqM (forM (.nm 3) (iterR1 (consA (callM mnF (consA (nameM 1) (consA (callM sumF (consA (nameM 0) nilA)) nilA))) nilA)) (seqM (asgM (.nm 4) (c_l_first (consA (nameM 0) (consA (nameM 2) nilA))))
  (setM 2 (nameM 4) (binM addF (binM ixF (nameM 2) (nameM 4)) (constM (.int 1))))))
  (frzM 2 (retM (nameM 2)))))
abbrev c_l_shared {ω : Type} {C : Cn ω} (ts : AM C) : EM C := callD 2 [] p_l_shared ts

theorem r_l_shared {ω : Type} {C : Cn ω} (ds : List D) (Kp : D → Prop) (hl : ds.length = 2) (hp : p_l_shared ds Kp) (w : ω) : m_l_shared C ⟨fun _ _ => Kp .non, fun d _ => Kp d, fun _ _ => False, fun _ _ => False⟩ (startG 5 [] ds) w := by
  obtain ⟨am, c, rfl, ha, h0, hc, hk⟩ := hp
  obtain ⟨s0, s1⟩ := ha.sum
  have hn := ha.1
  refine ⟨by decide, rfl, by rw [List.length_map]; omega, by rw [List.length_map]; omega, by simp; omega, ?_, rfl, ?_⟩
  · show nmL _ (List.replicate (((am.map D.int).length : Nat) : Int).toNat [D.int 0]).flatten = .F
    rw [rep_zero, nmL_ints]
  rw [List.length_map, Int.toNat_natCast]
  show seqM _ _ _ (List.set _ 2 (.own (.lst (List.replicate am.length [D.int 0]).flatten))) _
  rw [rep_zero]
  refine ⟨_, am, rfl, _, _, rfl, ?_, ?_, rfl, ?_⟩
  · split <;> omega
  · split <;> omega
  have emin : (if am.sum < c then am.sum else c) = min c am.sum := by split <;> omega
  refine loop_by (fun k Γ w => k ≤ (min c am.sum).toNat ∧ ∃ s3 s4, Γ = [.val false (.lst (am.map D.int)), .val true (.int c), .own (.lst ((grow am (zeros am.length) k).map D.int)), s3, s4]) (fun k d Γ w N hd hI hN => ?_) (fun Γ w hI => ?_) ⟨Nat.zero_le _, _, _, rfl⟩
  · obtain ⟨hk1, s3, s4, rfl⟩ := hI
    obtain ⟨rfl, hk2⟩ := rng_get hd
    obtain ⟨gk, sk⟩ := Mx.good_grow ha.pos (Mx.good_zeros ha.pos) k (by rw [Mx.sum_zeros]; split at hk2 <;> omega)
    rw [Mx.sum_zeros] at sk
    have hk3 : (k : Int) < min c am.sum := by rw [← emin]; omega
    obtain ⟨n0, n1, _, _⟩ := Mx.good_nx ha.pos gk (by omega)
    obtain ⟨c1, c2, c3⟩ := coin_step gk.len n0 n1
    refine ⟨rfl, rfl, am, grow am (zeros am.length) k, rfl, gk.len, ha.1, ha.sm, rfl, _, c1, rfl, rfl, _, rfl, _, _, rfl, c2, ?_⟩
    rw [c3]
    exact hN _ _ ⟨by omega, _, _, rfl⟩
  · obtain ⟨_, s3, s4, rfl⟩ := hI
    rw [rng_len, emin, show (min c am.sum - 0).toNat = (min c am.sum).toNat by omega]
    exact ⟨rfl, rfl, hk⟩
/-! ### the law's own looks -/
def p_l_are : PD := fun ds K => ∃ xs ys : List Int, ds = [.lst (xs.map D.int), .lst (ys.map D.int)] ∧ xs.length ≤ 100000 ∧ ys.length ≤ 100000 ∧ K (.bl (decide (xs = ys)))
theorem take_eq {xs ys : List Int} (hl : xs.length = ys.length) {k : Nat} (h : xs.take k = ys.take k) (hk : k < ys.length) (e : at' xs k = at' ys k) : xs.take (k + 1) = ys.take (k + 1) := by
  have h1 : k < xs.length := by omega
  rw [List.take_add_one, List.take_add_one, h, List.getElem?_eq_getElem h1, List.getElem?_eq_getElem hk]
  unfold at' at e
  rw [List.getD_eq_getElem?_getD, List.getD_eq_getElem?_getD, List.getElem?_eq_getElem h1, List.getElem?_eq_getElem hk] at e
  simp only [Option.getD_some] at e
  rw [e]
/-! l_are -/
def m_l_are {ω : Type} (C : Cn ω) : SM C :=
  (seqM (ifM (orM (notM (testM (isiM "list" (nameM 0)))) (testM (binM neF (callM lenF (consA (nameM 0) nilA)) (callM lenF (consA (nameM 1) nilA))))) (retM (constM (.bl false))) nextM)
  (seqM (forM (.nm 2) (iterR1 (consA (callM lenF (consA (nameM 1) nilA)) nilA)) (ifM (orM (testM (isiM "bool" (binM ixF (nameM 0) (nameM 2)))) (orM (notM (testM (isiM "int" (binM ixF (nameM 0) (nameM 2))))) (testM (binM neF (binM ixF (nameM 0) (nameM 2)) (binM ixF (nameM 1) (nameM 2)))))) (retM (constM (.bl false))) nextM))
  (retM (constM (.bl true)))))
abbrev c_l_are {ω : Type} {C : Cn ω} (ts : AM C) : EM C := callD 2 [] p_l_are ts

theorem r_l_are {ω : Type} {C : Cn ω} (ds : List D) (Kp : D → Prop) (hl : ds.length = 2) (hp : p_l_are ds Kp) (w : ω) : m_l_are C ⟨fun _ _ => Kp .non, fun d _ => Kp d, fun _ _ => False, fun _ _ => False⟩ (startG 3 [] ds) w := by
  obtain ⟨xs, ys, rfl, hx, hy, hk⟩ := hp
  refine ⟨_, _, rfl, kit_ll, _, rfl, iteF ⟨cmp_int _, cmp_int _, _, rfl, ?_⟩⟩
  rw [eqv_len, List.length_map, List.length_map]
  refine ite2 (fun h => ?_) (fun h => ?_)
  · refine ⟨rfl, rfl, ?_⟩
    have : ¬ xs = ys := fun z => by subst z; simp at h
    rw [decide_eq_false this] at hk; exact hk
  · have hlen : xs.length = ys.length := by simpa using h
    refine ⟨_, _, rfl, by rw [List.length_map]; omega, by rw [List.length_map]; omega, rfl, ?_⟩
    refine loop_by (fun k Γ w => k ≤ ys.length ∧ xs.take k = ys.take k ∧ ∃ s, Γ = [.val false (.lst (xs.map D.int)), .val false (.lst (ys.map D.int)), s]) (fun k d Γ w N hd hI hN => ?_) (fun Γ w hI => ?_) ⟨Nat.zero_le _, rfl, _, rfl⟩
    · obtain ⟨hk1, ht, s, rfl⟩ := hI
      obtain ⟨rfl, hk2⟩ := rng_get hd
      rw [List.length_map] at hk2
      have i1 : atI (xs.map D.int) (0 + (k : Int)) = some (.int (at' xs k)) := by
        have := at_ints (ns := xs) (i := 0 + (k : Int)) (by omega) (by omega)
        rw [show (0 + (k : Int)).toNat = k by omega] at this; exact this
      have i2 : atI (ys.map D.int) (0 + (k : Int)) = some (.int (at' ys k)) := by
        have := at_ints (ns := ys) (i := 0 + (k : Int)) (by omega) (by omega)
        rw [show (0 + (k : Int)).toNat = k by omega] at this; exact this
      refine ⟨_, i1, _, _, rfl, kit_ib, _, rfl, iteF ⟨_, i1, _, _, rfl, kit_ii, _, rfl, iteF ⟨_, i1, _, i2, cmp_int _, cmp_int _, _, rfl, ?_⟩⟩⟩
      rw [eqv_int]
      refine ite2 (fun h => ?_) (fun h => ?_)
      · refine ⟨rfl, rfl, ?_⟩
        have : ¬ xs = ys := fun z => by subst z; simp at h
        rw [decide_eq_false this] at hk; exact hk
      · have e : at' xs k = at' ys k := by simpa using h
        exact hN _ _ ⟨by omega, take_eq hlen ht (by omega) e, _, rfl⟩
    · obtain ⟨_, ht, s, rfl⟩ := hI
      rw [rng_len, List.length_map, show ((ys.length : Int) - 0).toNat = ys.length by omega] at ht
      rw [List.take_length, ← hlen, List.take_length] at ht
      rw [decide_eq_true ht] at hk
      exact ⟨rfl, rfl, hk⟩
/-- one coin more went to the one whose turn it was -/
def p_l_is_next : PD := fun ds K => ∃ am p : List Int, ds = [.lst (am.map D.int), .lst (p.map D.int), .lst ((inc p (nx am p).toNat).map D.int)] ∧ AmOk am ∧ p.length = am.length ∧ 0 ≤ nx am p ∧ (nx am p).toNat < am.length ∧ K (.bl true)
/-! l_is_next -/
def m_l_is_next {ω : Type} (C : Cn ω) : SM C :=
  (seqM (asgM (.nm 3) (lcM (.nm 4) (iterR1 (consA (callM lenF (consA (nameM 0) nilA)) nilA)) (testM (binM neF (binM ixF (nameM 2) (nameM 4)) (binM ixF (nameM 1) (nameM 4)))) (nameM 4) [4]))
  (retM (andE (binM eqF (callM lenF (consA (nameM 3) nilA)) (constM (.int 1))) (andE (binM eqF (binM ixF (nameM 2) (binM ixF (nameM 3) (constM (.int 0)))) (binM addF (binM ixF (nameM 1) (binM ixF (nameM 3) (constM (.int 0)))) (constM (.int 1)))) (binM eqF (binM ixF (nameM 3) (constM (.int 0))) (c_l_first (consA (nameM 0) (consA (nameM 1) nilA))))))))
abbrev c_l_is_next {ω : Type} {C : Cn ω} (ts : AM C) : EM C := callD 3 [] p_l_is_next ts

theorem r_l_is_next {ω : Type} {C : Cn ω} (ds : List D) (Kp : D → Prop) (hl : ds.length = 3) (hp : p_l_is_next ds Kp) (w : ω) : m_l_is_next C ⟨fun _ _ => Kp .non, fun d _ => Kp d, fun _ _ => False, fun _ _ => False⟩ (startG 5 [] ds) w := by
  obtain ⟨am, p, rfl, ha, hpl, h0, h1, hk⟩ := hp
  generalize hj : (nx am p).toNat = j at *
  have hjp : j < p.length := by omega
  have hil : (inc p j).length = p.length := by unfold inc; simp
  have hnx : nx am p = (j : Int) := by omega
  have atinc : ∀ k, at' (inc p j) k = if k = j then at' p j + 1 else at' p k := fun k => by unfold inc; exact Mx.at_set p j k _ hjp
  have hn := ha.1
  refine ⟨_, _, rfl, by rw [List.length_map]; omega, by rw [List.length_map]; omega, rfl, ?_⟩
  refine lc_by (fun k w m acc => k ≤ am.length ∧ m = .F ∧ acc = if j < k then [.int (j : Int)] else []) (fun k d w m acc N hd hI hN => ?_) (fun w m acc hI => ?_) ⟨Nat.zero_le _, rfl, rfl⟩
  · obtain ⟨hk1, rfl, rfl⟩ := hI
    obtain ⟨rfl, hk2⟩ := rng_get hd
    rw [List.length_map] at hk2
    have i1 : atI ((inc p j).map D.int) (0 + (k : Int)) = some (.int (at' (inc p j) k)) := by
      have := at_ints (ns := inc p j) (i := 0 + (k : Int)) (by omega) (by omega)
      rw [show (0 + (k : Int)).toNat = k by omega] at this; exact this
    have i2 : atI (p.map D.int) (0 + (k : Int)) = some (.int (at' p k)) := by
      have := at_ints (ns := p) (i := 0 + (k : Int)) (by omega) (by omega)
      rw [show (0 + (k : Int)).toNat = k by omega] at this; exact this
    refine ⟨_, i1, _, i2, cmp_int _, cmp_int _, _, rfl, ?_⟩
    rw [eqv_int, atinc]
    refine ite2 (fun h => ?_) (fun h => ?_)
    · have e : k = j := by
        by_cases z : k = j
        · exact z
        · rw [if_neg z] at h; simp at h
      subst e
      rw [if_neg (Nat.lt_irrefl _)]
      refine ⟨rfl, by decide, hN _ _ _ ⟨by omega, rfl, ?_⟩⟩
      rw [if_pos (Nat.lt_succ_self _), show (0 : Int) + (k : Int) = (k : Int) by omega]; rfl
    · have e : ¬ k = j := fun z => by
        rw [if_pos z, z] at h
        simp at h
        omega
      refine hN _ _ _ ⟨by omega, rfl, ?_⟩
      by_cases z : j < k
      · rw [if_pos z, if_pos (by omega)]
      · rw [if_neg z, if_neg (by omega)]
  · obtain ⟨_, rfl, rfl⟩ := hI
    rw [rng_len, List.length_map, show ((am.length : Int) - 0).toNat = am.length by omega, if_pos h1]
    have a0 : atI [D.int (j : Int)] 0 = some (.int (j : Int)) := rfl
    have i1 : atI ((inc p j).map D.int) (j : Int) = some (.int (at' p j + 1)) := by
      have := at_ints (ns := inc p j) (i := (j : Int)) (by omega) (by omega)
      rw [Int.toNat_natCast, show (inc p j).getD j 0 = at' (inc p j) j from rfl, atinc, if_pos rfl] at this; exact this
    have i2 : atI (p.map D.int) (j : Int) = some (.int (at' p j)) := by
      have := at_ints (ns := p) (i := (j : Int)) (by omega) (by omega)
      rw [Int.toNat_natCast] at this; exact this
    refine ⟨rfl, cmp_int _, cmp_int _, _, rfl, ?_⟩
    have e1 : (D.int (([D.int (j : Int)].length : Nat) : Int)).eqv (.int 1) = true := by rw [eqv_int]; rfl
    rw [e1]
    refine iteT ⟨_, a0, _, i1, _, a0, _, i2, cmp_int _, cmp_int _, _, rfl, ?_⟩
    rw [eqv_int, decide_eq_true rfl]
    refine iteT ⟨_, a0, rfl, rfl, am, p, rfl, hpl, ha.1, ha.sm, cmp_int _, cmp_int _, rfl, rfl, ?_⟩
    rw [eqv_int, hnx, decide_eq_true rfl]
    exact hk
--END l_is_next
end VS

/-! ### books, plainly -/
namespace Mx
/-- a claim: who owes, to whom, how much, of what rank -/
structure Cl where
  d : Int
  c : Int
  a : Int
  r : Int
deriving DecidableEq, Inhabited
structure Bk where
  cash : List Int
  cl : List Cl
def Bk.n (b : Bk) : Nat := b.cash.length
def Bk.m (b : Bk) : Nat := b.cl.length
def Bk.at (b : Bk) (i : Int) : Cl := b.cl.getD i.toNat ⟨0, 0, 0, 0⟩
def ClOk (n : Nat) (x : Cl) : Prop := 0 ≤ x.d ∧ x.d < n ∧ 0 ≤ x.c ∧ x.c < n ∧ x.d ≠ x.c ∧ 1 ≤ x.a ∧ x.a ≤ 999 ∧ 1 ≤ x.r ∧ x.r ≤ 9
structure BkW (b : Bk) : Prop where
  n1 : 1 ≤ b.n
  n8 : b.n ≤ 8
  cash : ∀ x ∈ b.cash, 0 ≤ x ∧ x ≤ 100000
  m24 : b.m ≤ 24
  cl : ∀ x ∈ b.cl, ClOk b.n x
/-- a book (BkW: the coins of a house may be more) -/
structure BkOk (b : Bk) : Prop extends BkW b where
  c999 : ∀ x ∈ b.cash, x ≤ 999
instance {b : Bk} : Coe (BkOk b) (BkW b) := ⟨BkOk.toBkW⟩
theorem BkW.at {b : Bk} (h : BkW b) {i : Int} (h0 : 0 ≤ i) (h1 : i < b.m) : ClOk b.n (b.at i) := by
  unfold Bk.at
  have : i.toNat < b.cl.length := by unfold Bk.m at h1; omega
  rw [List.getD_eq_getElem?_getD, List.getElem?_eq_getElem this]
  exact h.cl _ (List.getElem_mem this)
/-- the numbers, from k on, of those for which f holds -/
def pick (f : Cl → Bool) : Int → List Cl → List Int
  | _, [] => []
  | k, x :: xs => if f x = true then k :: pick f (k + 1) xs else pick f (k + 1) xs
/-- the numbers of the house's claims -/
def on (b : Bk) (h : Int) : List Int := pick (fun x => decide (x.d = h)) 0 b.cl
theorem pick_mem {f : Cl → Bool} : ∀ {xs : List Cl} {k i : Int}, i ∈ pick f k xs ↔ k ≤ i ∧ i < k + xs.length ∧ f (xs.getD (i - k).toNat ⟨0, 0, 0, 0⟩) = true
  | [], k, i => by simp [pick]; omega
  | x :: xs, k, i => by
    have ih := pick_mem (f := f) (xs := xs) (k := k + 1) (i := i)
    unfold pick
    have e : k + 1 ≤ i → (x :: xs).getD (i - k).toNat ⟨0, 0, 0, 0⟩ = xs.getD (i - (k + 1)).toNat ⟨0, 0, 0, 0⟩ := fun h => by
      have : (i - k).toNat = (i - (k + 1)).toNat + 1 := by omega
      rw [this]; simp
    have e0 : (x :: xs).getD (k - k).toNat ⟨0, 0, 0, 0⟩ = x := by simp
    simp only [List.length_cons]
    by_cases hx : f x = true
    · rw [if_pos hx, List.mem_cons, ih]
      constructor
      · rintro (rfl | ⟨h1, h2, h3⟩)
        · exact ⟨Int.le_refl _, by omega, by rw [e0]; exact hx⟩
        · exact ⟨by omega, by omega, by rw [e h1]; exact h3⟩
      · rintro ⟨h1, h2, h3⟩
        by_cases z : i = k
        · exact .inl z
        · exact .inr ⟨by omega, by omega, by rw [← e (by omega)]; exact h3⟩
    · rw [if_neg hx, ih]
      constructor
      · rintro ⟨h1, h2, h3⟩
        exact ⟨by omega, by omega, by rw [e h1]; exact h3⟩
      · rintro ⟨h1, h2, h3⟩
        by_cases z : i = k
        · subst z; rw [e0] at h3; exact absurd h3 hx
        · exact ⟨by omega, by omega, by rw [← e (by omega)]; exact h3⟩
theorem pick_up {f : Cl → Bool} : ∀ {xs : List Cl} {k : Int}, (pick f k xs).Pairwise (· < ·)
  | [], k => by unfold pick; exact .nil
  | x :: xs, k => by
    unfold pick
    split
    · refine .cons (fun i hi => ?_) pick_up
      have := (pick_mem.mp hi).1
      omega
    · exact pick_up
theorem pick_len {f : Cl → Bool} : ∀ {xs : List Cl} {k : Int}, (pick f k xs).length ≤ xs.length
  | [], k => by unfold pick; simp
  | x :: xs, k => by
    unfold pick
    have := pick_len (f := f) (xs := xs) (k := k + 1)
    split <;> simp <;> omega
theorem on_mem {b : Bk} {h i : Int} : i ∈ on b h ↔ 0 ≤ i ∧ i < b.m ∧ (b.at i).d = h := by
  unfold on
  rw [pick_mem]
  simp [Bk.m, Bk.at]
theorem on_up (b : Bk) (h : Int) : (on b h).Pairwise (· < ·) := pick_up
theorem on_len (b : Bk) (h : Int) : (on b h).length ≤ b.m := pick_len
/-- what it owes by all its claims -/
def owe (b : Bk) (h : Int) : Int := ((on b h).map fun i => (b.at i).a).sum
/-- its claims of a rank -/
def grp (b : Bk) (h r : Int) : List Int := (on b h).filter fun i => decide ((b.at i).r = r)
/-- the coins for claims in groups, one group after the other -/
def payG (b : Bk) : List (List Int) → Int → List (Int × Int)
  | [], _ => []
  | g :: gs, m => g.zip (sh (g.map fun i => (b.at i).a) m) ++ payG b gs (m - (sh (g.map fun i => (b.at i).a) m).sum)
def ranks9 : List Int := [1, 2, 3, 4, 5, 6, 7, 8, 9]
/-- claim by claim, what the house pays with so many coins: by ranks -/
def payP (b : Bk) (h m : Int) : List (Int × Int) := payG b (ranks9.map (grp b h)) m
end Mx

/-! ### payments by ranks, plainly -/
namespace Mx
def amts (b : Bk) (g : List Int) : List Int := g.map fun i => (b.at i).a
def Amt (b : Bk) (g : List Int) : Prop := ∀ i ∈ g, 1 ≤ (b.at i).a ∧ (b.at i).a ≤ 999
theorem Amt.pos {b : Bk} {g : List Int} (h : Amt b g) : ∀ i, i < (amts b g).length → 0 < at' (amts b g) i := fun i hi => by
  unfold amts at hi ⊢
  rw [List.length_map] at hi
  have := h _ (List.getElem_mem hi)
  unfold at'
  rw [List.getD_eq_getElem?_getD, List.getElem?_map, List.getElem?_eq_getElem hi]
  show 0 < (b.at g[i]).a
  omega
theorem Amt.hi {b : Bk} {g : List Int} (h : Amt b g) : ∀ a ∈ amts b g, 1 ≤ a ∧ a ≤ 999 := fun a ha => by
  unfold amts at ha
  obtain ⟨i, hi, rfl⟩ := List.mem_map.mp ha
  exact h i hi
theorem sh_len' {b : Bk} {g : List Int} (h : Amt b g) {m : Int} (h0 : 0 ≤ m) : (sh (amts b g) m).length = g.length := by
  have := (good_sh h.pos h0).1.len
  rw [this]; unfold amts; rw [List.length_map]
theorem sh_sum {b : Bk} {g : List Int} (h : Amt b g) {m : Int} (h0 : 0 ≤ m) : (sh (amts b g) m).sum = min m (amts b g).sum := (good_sh h.pos h0).2
theorem sum_nn : ∀ {l : List Int}, (∀ x ∈ l, 0 ≤ x) → 0 ≤ l.sum
  | [], _ => by simp
  | x :: l, h => by
    rw [List.sum_cons]
    have := h x (by simp)
    have := sum_nn fun y hy => h y (List.mem_cons_of_mem _ hy)
    omega
theorem amts_sum {b : Bk} {g : List Int} (h : Amt b g) : 0 ≤ (amts b g).sum := sum_nn fun a ha => by have := h.hi a ha; omega
theorem sh_left {b : Bk} {g : List Int} (h : Amt b g) {m : Int} (h0 : 0 ≤ m) : 0 ≤ m - (sh (amts b g) m).sum ∧ 0 ≤ (sh (amts b g) m).sum := by
  rw [sh_sum h h0]
  have := amts_sum h
  omega
theorem payG_keys {b : Bk} : ∀ {gs : List (List Int)} {m : Int}, 0 ≤ m → (∀ g ∈ gs, Amt b g) → (payG b gs m).map (·.1) = gs.flatten
  | [], _, _, _ => rfl
  | g :: gs, m, h0, h => by
    have hg := h g (by simp)
    unfold payG
    rw [List.map_append, List.flatten_cons]
    have e1 : (g.zip (sh (g.map fun i => (b.at i).a) m)).map (·.1) = g := List.map_fst_zip (by have := sh_len' hg h0; unfold amts at this; omega)
    have e2 := payG_keys (gs := gs) (sh_left hg h0).1 fun g' hg' => h g' (List.mem_cons_of_mem _ hg')
    unfold amts at e2
    rw [e1, e2]
theorem payG_drop (b : Bk) : ∀ (gs : List (List Int)) (m : Int), payG b (gs.filter fun g => decide (g ≠ [])) m = payG b gs m
  | [], _ => rfl
  | g :: gs, m => by
    by_cases hg : g = []
    · subst hg
      rw [List.filter_cons_of_neg (by simp), payG_drop b gs m]
      show _ = [] ++ payG b gs (m - (sh [] m).sum)
      have : sh [] m = [] := by
        unfold sh gr
        simp only [List.sum_nil]
        have e : (min m 0).toNat = 0 := by omega
        rw [e]; rfl
      rw [this]; simp
    · rw [List.filter_cons_of_pos (by simpa using hg)]
      show _ ++ payG b (gs.filter _) _ = _ ++ payG b gs _
      rw [payG_drop b gs]
theorem grp_mem {b : Bk} {h r i : Int} : i ∈ grp b h r ↔ i ∈ on b h ∧ (b.at i).r = r := by
  unfold grp
  rw [List.mem_filter]; simp
theorem grp_sub {b : Bk} {h r : Int} : ∀ i ∈ grp b h r, i ∈ on b h := fun i hi => (grp_mem.mp hi).1
theorem amt_on {b : Bk} (hb : BkW b) {h : Int} {g : List Int} (hg : ∀ i ∈ g, i ∈ on b h) : Amt b g := fun i hi => by
  obtain ⟨h0, h1, _⟩ := on_mem.mp (hg i hi)
  obtain ⟨_, _, _, _, _, c6, c7, _⟩ := hb.at h0 h1
  exact ⟨c6, c7⟩
theorem mem9 {r : Int} : r ∈ ranks9 ↔ 1 ≤ r ∧ r ≤ 9 := by unfold ranks9; simp; omega
theorem up9 : ranks9.Pairwise (· < ·) := by unfold ranks9; decide
theorem nodup_up {l : List Int} (h : l.Pairwise (· < ·)) : l.Nodup := h.imp fun h => by omega
theorem keys_perm {b : Bk} (hb : BkW b) (h : Int) : (ranks9.map (grp b h)).flatten.Perm (on b h) := by
  refine (List.perm_ext_iff_of_nodup ?_ (nodup_up (on_up b h))).mpr fun i => ?_
  · refine List.pairwise_flatten.mpr ⟨fun l hl => ?_, ?_⟩
    · obtain ⟨r, _, rfl⟩ := List.mem_map.mp hl
      exact nodup_up ((on_up b h).filter _)
    · refine List.pairwise_map.mpr (up9.imp fun {r s} hrs x hx y hy => ?_)
      have h1 := (grp_mem.mp hx).2
      have h2 := (grp_mem.mp hy).2
      intro z; subst z; omega
  · constructor
    · intro hi
      obtain ⟨l, hl, hi⟩ := List.mem_flatten.mp hi
      obtain ⟨r, _, rfl⟩ := List.mem_map.mp hl
      exact grp_sub i hi
    · intro hi
      obtain ⟨h0, h1, _⟩ := on_mem.mp hi
      obtain ⟨_, _, _, _, _, _, _, c8, c9⟩ := hb.at h0 h1
      exact List.mem_flatten.mpr ⟨_, List.mem_map.mpr ⟨(b.at i).r, mem9.mpr ⟨c8, c9⟩, rfl⟩, grp_mem.mpr ⟨hi, rfl⟩⟩
theorem amt_grps {b : Bk} (hb : BkW b) (h : Int) : ∀ g ∈ ranks9.map (grp b h), Amt b g := fun g hg => by
  obtain ⟨r, _, rfl⟩ := List.mem_map.mp hg
  exact amt_on hb grp_sub
theorem payP_keys {b : Bk} (hb : BkW b) (h : Int) {m : Int} (h0 : 0 ≤ m) : ((payP b h m).map (·.1)).Perm (on b h) := by
  unfold payP
  rw [payG_keys h0 (amt_grps hb h)]
  exact keys_perm hb h
theorem payP_nodup {b : Bk} (hb : BkW b) (h : Int) {m : Int} (h0 : 0 ≤ m) : ((payP b h m).map (·.1)).Nodup := (payP_keys hb h h0).nodup_iff.mpr (nodup_up (on_up b h))
theorem lookup_in : ∀ {l : List (Int × Int)} {z : Int × Int}, (l.map (·.1)).Nodup → z ∈ l → l.lookup z.1 = some z.2
  | (k, v) :: l, z, hn, hz => by
    rw [List.map_cons] at hn
    obtain ⟨h1, h2⟩ := List.nodup_cons.mp hn
    rcases List.mem_cons.mp hz with rfl | hz
    · simp [List.lookup]
    · have : z.1 ≠ k := fun e => h1 (by rw [← e]; exact List.mem_map.mpr ⟨z, hz, rfl⟩)
      rw [List.lookup_cons, show (z.1 == k) = false by simpa using this]
      exact lookup_in h2 hz
/-- the coins of the claim i -/
def coin (b : Bk) (h m i : Int) : Int := ((payP b h m).lookup i).getD 0
theorem up_ext : ∀ {l k : List Int}, l.Pairwise (· < ·) → k.Pairwise (· < ·) → (∀ i, i ∈ l ↔ i ∈ k) → l = k := fun {l k} hl hk h => by
  have p : l.Perm k := (List.perm_ext_iff_of_nodup (nodup_up hl) (nodup_up hk)).mpr h
  exact p.eq_of_pairwise (fun a b _ _ h1 h2 => by omega) hl hk
/-- the coins of all its claims, the claims rising -/
def payS (b : Bk) (h m : Int) : List (Int × Int) := (on b h).map fun i => (i, coin b h m i)
theorem payS_of {b : Bk} (hb : BkW b) (h : Int) {m : Int} (h0 : 0 ≤ m) {zs : List (Int × Int)} (hp : zs.Perm (payP b h m)) (hs : zs.Pairwise fun x y => x.1 ≤ y.1) : zs = payS b h m := by
  have hn := payP_nodup hb h h0
  have e1 : (zs.map (·.1)).Perm (on b h) := (hp.map _).trans (payP_keys hb h h0)
  have e2 : (zs.map (·.1)).Pairwise (· < ·) := by
    have n1 : (zs.map (·.1)).Nodup := e1.nodup_iff.mpr (nodup_up (on_up b h))
    have s1 : (zs.map (·.1)).Pairwise (· ≤ ·) := List.pairwise_map.mpr hs
    exact (s1.and n1).imp fun h => by omega
  have e3 : zs.map (·.1) = on b h := up_ext e2 (on_up b h) fun i => e1.mem_iff
  unfold payS
  rw [← e3, List.map_map]
  conv => lhs; rw [← List.map_id zs]
  refine List.map_congr_left fun z hz => ?_
  show z = (z.1, coin b h m z.1)
  unfold coin
  rw [lookup_in hn (hp.mem_iff.mp hz)]; rfl
theorem coin_of {b : Bk} (hb : BkW b) (h : Int) {m : Int} (h0 : 0 ≤ m) {i : Int} (hi : i ∈ on b h) : (payP b h m).lookup i = some (coin b h m i) := by
  have : i ∈ (payP b h m).map (·.1) := (payP_keys hb h h0).mem_iff.mpr hi
  obtain ⟨z, hz, rfl⟩ := List.mem_map.mp this
  unfold coin
  rw [lookup_in (payP_nodup hb h h0) hz]; rfl
/-- the ranks that there are, rising: the groups of claims -/
def rks (b : Bk) (h : Int) : List Int := ranks9.filter fun r => decide (grp b h r ≠ [])
theorem rks_of {b : Bk} (hb : BkW b) {h : Int} {ks : List Int} (hs : ks.Pairwise (· ≤ ·)) (hn : ks.Nodup) (hm : ∀ r, r ∈ ks ↔ ∃ i ∈ on b h, (b.at i).r = r) : ks = rks b h := by
  have e2 : ks.Pairwise (· < ·) := (hs.and hn).imp fun h => by omega
  refine up_ext e2 (up9.filter _) fun r => ?_
  rw [hm]
  unfold rks
  rw [List.mem_filter, mem9]
  constructor
  · rintro ⟨i, hi, rfl⟩
    obtain ⟨h0, h1, _⟩ := on_mem.mp hi
    obtain ⟨_, _, _, _, _, _, _, c8, c9⟩ := hb.at h0 h1
    refine ⟨⟨c8, c9⟩, ?_⟩
    have : i ∈ grp b h (b.at i).r := grp_mem.mpr ⟨hi, rfl⟩
    simp only [ne_eq, decide_not, Bool.not_eq_true', decide_eq_false_iff_not]
    intro z; rw [z] at this; cases this
  · rintro ⟨_, hg⟩
    have hg : grp b h r ≠ [] := by simpa using hg
    obtain ⟨i, hi⟩ := List.exists_mem_of_ne_nil _ hg
    exact ⟨i, grp_mem.mp hi⟩
theorem payP_rks (b : Bk) (h m : Int) : payG b ((rks b h).map (grp b h)) m = payP b h m := by
  unfold payP rks
  rw [← payG_drop b (ranks9.map (grp b h)) m, List.filter_map]
  rfl
end Mx

namespace VS
open PySem PySem.Spec PyProof.Rows L2
open Mx (Cl Bk BkOk BkW ClOk on owe grp payG payP ranks9 pick at' sh)
/-! ### books as data -/
def clD (x : Cl) : D := .tup [.int x.d, .int x.c, .int x.a, .int x.r]
def cashD (b : Bk) : D := .tup (b.cash.map D.int)
def clsD (b : Bk) : D := .tup (b.cl.map clD)
def bkD (b : Bk) : D := .tup [cashD b, clsD b]
theorem flats_cl : ∀ xs : List Cl, D.flats (xs.map clD) = true
  | [] => rfl
  | x :: xs => by
    show ((clD x).flat && D.flats (xs.map clD)) = true
    rw [flats_cl xs]; rfl
theorem flat_cash (b : Bk) : (cashD b).flat = true := flats_ints _
theorem flat_cls (b : Bk) : (clsD b).flat = true := flats_cl _
theorem flat_bk (b : Bk) : (bkD b).flat = true := by
  show ((cashD b).flat && ((clsD b).flat && true)) = true
  rw [flat_cash, flat_cls]; rfl
theorem asg_flat {fr : Bool} {d : D} {Γ : List Sl} {i : Nat} {K : List Sl → Prop} (hd : d.flat = true) (h : K (Γ.set i (.val true d))) : Tg.asg fr d Γ K (.nm i) := by
  show K (Γ.set i (.val (fr || d.flat) d))
  rw [hd, Bool.or_true]; exact h
theorem asg_tp2 {fr : Bool} {x y : D} {Γ : List Sl} {i j : Nat} {K : List Sl → Prop} (hx : x.flat = true) (hy : y.flat = true) (h : K ((Γ.set i (.val true x)).set j (.val true y))) : Tg.asg fr (.tup [x, y]) Γ K (.tp [i, j]) := by
  refine ⟨_, rfl, rfl, ?_⟩
  show K ((Γ.set i (.val (fr || x.flat) x)).set j (.val (fr || y.flat) y))
  rw [hx, hy, Bool.or_true]; exact h
theorem at_cl {b : Bk} {i : Int} (h0 : 0 ≤ i) (h1 : i < b.m) : atI (b.cl.map clD) i = some (clD (b.at i)) := by
  unfold atI
  have h2 : i < b.cl.length := h1
  rw [List.length_map, ixN_ok h0 h2]
  have : i.toNat < b.cl.length := by omega
  simp [this, Bk.at, List.getD_eq_getElem?_getD]
theorem en_get {ds : List D} {k : Nat} {d : D} (h : (enD 0 ds)[k]? = some d) : ∃ e, ds[k]? = some e ∧ d = .tup [.int (k : Int), e] := by
  rw [enD_get] at h
  cases z : ds[k]? with
  | none => rw [z] at h; cases h
  | some e =>
    rw [z] at h
    cases h
    exact ⟨e, rfl, by rw [Nat.zero_add]⟩
theorem cl_get {b : Bk} {k : Nat} {d : D} (h : (b.cl.map clD)[k]? = some d) : d = clD (b.at k) ∧ k < b.m := by
  rw [List.getElem?_map] at h
  cases z : b.cl[k]? with
  | none => rw [z] at h; cases h
  | some x =>
    rw [z] at h
    cases h
    refine ⟨?_, (List.getElem?_eq_some_iff.mp z).1⟩
    unfold Bk.at
    rw [Int.toNat_natCast, List.getD_eq_getElem?_getD, z]; rfl
theorem cash_get {b : Bk} {k : Nat} {d : D} (h : (b.cash.map D.int)[k]? = some d) : ∃ x, x ∈ b.cash ∧ d = .int x ∧ k < b.n := by
  rw [List.getElem?_map] at h
  cases z : b.cash[k]? with
  | none => rw [z] at h; cases h
  | some x =>
    rw [z] at h
    cases h
    exact ⟨x, List.mem_of_getElem? z, rfl, (List.getElem?_eq_some_iff.mp z).1⟩
/-! ### books looked at -/
def p_need : PD := fun ds K => ∃ x s, ds = [.bl true, x, s] ∧ K .non
theorem iteP {p : Prop} [Decidable p] {x y : Prop} (h : p) (hx : x) : if decide p = true then x else y := by rw [decide_eq_true h]; exact hx
theorem iteN {p : Prop} [Decidable p] {x y : Prop} (h : ¬ p) (hy : y) : if decide p = true then x else y := by rw [decide_eq_false h]; exact hy
theorem need_ok {p : Prop} [Decidable p] {x s : D} {K : D → Prop} (h : p) (hk : K .non) : p_need [.bl (decide p), x, s] K := ⟨x, s, by rw [decide_eq_true h], hk⟩
theorem st_bk (n : Nat) (b : Bk) (ds : List D) : startG (n + 1) [] (bkD b :: ds) = .val true (bkD b) :: startG n [] ds := by
  show Sl.val (false || (bkD b).flat) (bkD b) :: startG n [] ds = _
  rw [flat_bk]; rfl
/-! need["good", "at", "why"] -/
def m_need {ω : Type} (C : Cn ω) : SM C :=
  (ifM (notM (testM (nameM 0))) nvM nextM)
abbrev c_need {ω : Type} {C : Cn ω} (ts : AM C) : EM C := callD 3 [] p_need ts

theorem r_need {ω : Type} {C : Cn ω} (ds : List D) (Kp : D → Prop) (hl : ds.length = 3) (hp : p_need ds Kp) (w : ω) : m_need C ⟨fun _ _ => Kp .non, fun d _ => Kp d, fun _ _ => False, fun _ _ => False⟩ (startG 3 [] ds) w := by
  obtain ⟨x, s, rfl, hk⟩ := hp
  exact ⟨_, rfl, iteF hk⟩
--END need
def p_need_book : PD := fun ds K => ∃ b, ds = [bkD b] ∧ BkOk b ∧ K .non
/-! need_book["book", "cash", "claims", "house", "coins", "number", "claim"] -/
def m_need_book {ω : Type} (C : Cn ω) : SM C :=
  (seqM (asgM (.tp [1, 2]) (nameM 0))
  (seqM (dropM (c_need (consA (chainM leF leF (constM (.int 1)) (callM lenF (consA (nameM 1) nilA)) (constM (.int 8))) (consA (constM (.int 0)) (consA (constM (.str "houses")) nilA)))))
  (seqM (forM (.tp [3, 4]) (iterEnT (consA (nameM 1) nilA)) (dropM (c_need (consA (chainM leF leF (constM (.int 0)) (nameM 4) (constM (.int 999))) (consA (nameM 3) (consA (constM (.str "cash")) nilA))))))
  (seqM (dropM (c_need (consA (binM leF (callM lenF (consA (nameM 2) nilA)) (constM (.int 24))) (consA (constM (.int 0)) (consA (constM (.str "claims")) nilA)))))
  (forM (.tp [5, 6]) (iterEnT (consA (nameM 2) nilA)) (seqM (forM (.nm 3) (iterT (slM (nameM 6) noPart (partM (constM (.int 2))))) (dropM (c_need (consA (chainM leF ltF (constM (.int 0)) (nameM 3) (callM lenF (consA (nameM 1) nilA))) (consA (nameM 5) (consA (constM (.str "house")) nilA))))))
  (seqM (dropM (c_need (consA (binM neF (binM ixF (nameM 6) (constM (.int 0))) (binM ixF (nameM 6) (constM (.int 1)))) (consA (nameM 5) (consA (constM (.str "house")) nilA)))))
  (seqM (dropM (c_need (consA (chainM leF leF (constM (.int 1)) (binM ixF (nameM 6) (constM (.int 2))) (constM (.int 999))) (consA (nameM 5) (consA (constM (.str "amount")) nilA)))))
  (dropM (c_need (consA (chainM leF leF (constM (.int 1)) (binM ixF (nameM 6) (constM (.int 3))) (constM (.int 9))) (consA (nameM 5) (consA (constM (.str "rank")) nilA)))))))))))))
abbrev c_need_book {ω : Type} {C : Cn ω} (ts : AM C) : EM C := callD 1 [] p_need_book ts

theorem r_need_book {ω : Type} {C : Cn ω} (ds : List D) (Kp : D → Prop) (hl : ds.length = 1) (hp : p_need_book ds Kp) (w : ω) : m_need_book C ⟨fun _ _ => Kp .non, fun d _ => Kp d, fun _ _ => False, fun _ _ => False⟩ (startG 7 [] ds) w := by
  obtain ⟨b, rfl, hb, hk⟩ := hp
  rw [st_bk]
  have n1 := hb.n1
  have n8 := hb.n8
  have m24 := hb.m24
  have ln : (b.cash.map D.int).length = b.n := List.length_map _
  have lm : (b.cl.map clD).length = b.m := List.length_map _
  refine ⟨rfl, asg_tp2 (flat_cash b) (flat_cls b) ?_⟩
  refine ⟨_, rfl, iteP (show (1 : Int) ≤ _ by rw [ln]; omega) ⟨rfl, rfl, need_ok (show _ ≤ (8 : Int) by rw [ln]; omega) ?_⟩⟩
  refine ⟨_, _, rfl, rfl, ?_⟩
  refine loop_by (fun k Γ w => ∃ s3 s4, Γ = [.val true (bkD b), .val true (cashD b), .val true (clsD b), s3, s4, .no, .no]) (fun k d Γ w N hd hI hN => ?_) (fun Γ w hI => ?_) ⟨_, _, rfl⟩
  · obtain ⟨s3, s4, rfl⟩ := hI
    obtain ⟨e, he, rfl⟩ := en_get hd
    obtain ⟨x, hx, rfl, _⟩ := cash_get he
    have := hb.cash x hx
    have := hb.c999 x hx
    exact asg_tp2 rfl rfl ⟨_, rfl, iteP (show (0 : Int) ≤ x by omega) ⟨rfl, rfl, need_ok (show x ≤ 999 by omega) (hN _ _ ⟨_, _, rfl⟩)⟩⟩
  · obtain ⟨s3, s4, rfl⟩ := hI
    refine ⟨rfl, rfl, need_ok (show _ ≤ (24 : Int) by rw [lm]; omega) ?_⟩
    refine ⟨_, _, rfl, rfl, ?_⟩
    refine loop_by (fun k Γ w => ∃ s3 s4 s5 s6, Γ = [.val true (bkD b), .val true (cashD b), .val true (clsD b), s3, s4, s5, s6]) (fun k d Γ w N hd hI hN => ?_) (fun Γ w hI => hk) ⟨_, _, _, _, rfl⟩
    obtain ⟨s3, s4, s5, s6, rfl⟩ := hI
    obtain ⟨e, he, rfl⟩ := en_get hd
    obtain ⟨rfl, hkm⟩ := cl_get he
    obtain ⟨c1, c2, c3, c4, c5, c6, c7, c8, c9⟩ := hb.at (i := (k : Int)) (by omega) (by omega)
    refine asg_tp2 rfl rfl ⟨_, rfl, _, rfl, rfl, ?_⟩
    refine loop_by (fun j Γ w => ∃ s3 s4, Γ = [.val true (bkD b), .val true (cashD b), .val true (clsD b), s3, s4, .val true (.int (k : Int)), .val true (clD (b.at k))]) (fun j d Γ w N hd hI hN => ?_) (fun Γ w hI => ?_) ⟨_, _, rfl⟩
    · obtain ⟨s3, s4, rfl⟩ := hI
      have hx : ∃ x : Int, d = .int x ∧ 0 ≤ x ∧ x < b.n := by
        match j, hd with
        | 0, hd => cases hd; exact ⟨_, rfl, c1, c2⟩
        | 1, hd => cases hd; exact ⟨_, rfl, c3, c4⟩
      obtain ⟨x, rfl, x0, x1⟩ := hx
      exact ⟨_, rfl, iteP x0 ⟨rfl, rfl, need_ok (show x < _ by rw [ln]; exact x1) (hN _ _ ⟨_, _, rfl⟩)⟩⟩
    · obtain ⟨s3, s4, rfl⟩ := hI
      refine ⟨_, rfl, _, rfl, cmp_int _, cmp_int _, rfl, rfl, ?_⟩
      have e1 : (!(D.int (b.at k).d).eqv (.int (b.at k).c)) = decide ((b.at k).d ≠ (b.at k).c) := by rw [eqv_int]; simp
      show p_need [.bl (!(D.int (b.at k).d).eqv (.int (b.at k).c)), _, _] _
      rw [e1]
      refine need_ok c5 ⟨_, rfl, _, rfl, iteP c6 ⟨rfl, rfl, need_ok c7 ⟨_, rfl, _, rfl, iteP c8 ⟨rfl, rfl, need_ok c9 (hN _ _ ⟨_, _, _, _, rfl⟩)⟩⟩⟩⟩
--END need_book
theorem iteNt {p : Prop} [Decidable p] {x y : Prop} (h : p) (hy : y) : if (!decide p) = true then x else y := by rw [decide_eq_true h]; exact hy
theorem iteNn {p : Prop} [Decidable p] {x y : Prop} (h : ¬ p) (hx : x) : if (!decide p) = true then x else y := by rw [decide_eq_false h]; exact hx
def p_need_house : PD := fun ds K => ∃ (b : Bk) (h : Int), ds = [bkD b, .int h] ∧ 0 ≤ h ∧ h < b.n ∧ K .non
/-! need_house -/
def m_need_house {ω : Type} (C : Cn ω) : SM C :=
  (ifM (notM (testM (chainM leF ltF (constM (.int 0)) (nameM 1) (callM lenF (consA (binM ixF (nameM 0) (constM (.int 0))) nilA))))) nvM nextM)
abbrev c_need_house {ω : Type} {C : Cn ω} (ts : AM C) : EM C := callD 2 [] p_need_house ts

theorem r_need_house {ω : Type} {C : Cn ω} (ds : List D) (Kp : D → Prop) (hl : ds.length = 2) (hp : p_need_house ds Kp) (w : ω) : m_need_house C ⟨fun _ _ => Kp .non, fun d _ => Kp d, fun _ _ => False, fun _ _ => False⟩ (startG 2 [] ds) w := by
  obtain ⟨b, h, rfl, h0, h1, hk⟩ := hp
  rw [st_bk]
  have ln : (b.cash.map D.int).length = b.n := List.length_map _
  exact ⟨_, rfl, iteP h0 ⟨_, rfl, _, rfl, iteNt (show h < _ by rw [ln]; exact h1) hk⟩⟩
--END need_house
def p_claims_on : PD := fun ds K => ∃ (b : Bk) (h : Int), ds = [bkD b, .int h] ∧ b.m ≤ 1000 ∧ K (.lst ((on b h).map D.int))
theorem pick_step {f : Cl → Bool} {b : Bk} {k : Nat} (h : k < b.m) : pick f (k : Int) (b.cl.drop k) = if f (b.at k) = true then (k : Int) :: pick f ((k + 1 : Nat) : Int) (b.cl.drop (k + 1)) else pick f ((k + 1 : Nat) : Int) (b.cl.drop (k + 1)) := by
  have e : b.cl.drop k = b.at k :: b.cl.drop (k + 1) := by
    have hk : k < b.cl.length := h
    rw [List.drop_eq_getElem_cons hk]
    congr 1
    unfold Bk.at
    rw [Int.toNat_natCast, List.getD_eq_getElem?_getD, List.getElem?_eq_getElem hk]; rfl
  rw [e]
  rfl
/-! claims_on -/
def m_claims_on {ω : Type} (C : Cn ω) : SM C :=
  (retM (lcM (.tp [2, 3]) (iterEnT (consA (binM ixF (nameM 0) (constM (.int 1))) nilA)) (testM (binM eqF (binM ixF (nameM 3) (constM (.int 0))) (nameM 1))) (nameM 2) [2, 3]))
abbrev c_claims_on {ω : Type} {C : Cn ω} (ts : AM C) : EM C := callD 2 [] p_claims_on ts

theorem r_claims_on {ω : Type} {C : Cn ω} (ds : List D) (Kp : D → Prop) (hl : ds.length = 2) (hp : p_claims_on ds Kp) (w : ω) : m_claims_on C ⟨fun _ _ => Kp .non, fun d _ => Kp d, fun _ _ => False, fun _ _ => False⟩ (startG 4 [] ds) w := by
  obtain ⟨b, h, rfl, hm, hk⟩ := hp
  rw [st_bk]
  have lm : (b.cl.map clD).length = b.m := List.length_map _
  refine ⟨_, rfl, _, _, rfl, rfl, ?_⟩
  refine lc_by (fun k w m acc => k ≤ b.m ∧ m = .F ∧ ∃ l : List Int, acc = l.map D.int ∧ l.length ≤ k ∧ l ++ pick (fun x => decide (x.d = h)) (k : Int) (b.cl.drop k) = on b h) (fun k d w m acc N hd hI hN => ?_) (fun w m acc hI => ?_) ⟨Nat.zero_le _, rfl, [], rfl, Nat.zero_le _, rfl⟩
  · obtain ⟨hkm, rfl, l, rfl, hll, he⟩ := hI
    obtain ⟨e, he2, rfl⟩ := en_get hd
    obtain ⟨rfl, hkm⟩ := cl_get he2
    rw [pick_step hkm] at he
    refine asg_tp2 rfl rfl ⟨_, rfl, cmp_int _, cmp_int _, _, rfl, ?_⟩
    rw [eqv_int]
    refine ite2 (fun q => ?_) (fun q => ?_)
    · rw [if_pos (by simpa using q)] at he
      exact ⟨rfl, by rw [List.length_map]; omega, hN _ _ _ ⟨hkm, rfl, l ++ [(k : Int)], by rw [List.map_append]; rfl, by rw [List.length_append]; simp; omega, by rw [List.append_assoc]; exact he⟩⟩
    · rw [if_neg (by simpa using q)] at he
      exact hN _ _ _ ⟨hkm, rfl, l, rfl, by omega, he⟩
  · obtain ⟨_, rfl, l, rfl, _, he⟩ := hI
    rw [enD_length, lm] at he
    have e0 : b.cl.drop b.m = [] := List.drop_eq_nil_of_le (Nat.le_refl _)
    rw [e0] at he
    have : l = on b h := by rw [← he]; show l = l ++ []; simp
    rw [this]
    exact ⟨rfl, rfl, hk⟩
--END claims_on
def p_all_owed : PD := fun ds K => ∃ (b : Bk) (h : Int), ds = [bkD b, .int h] ∧ b.m ≤ 1000 ∧ K (.int (owe b h))
theorem ints_map (f : Int → Int) (g : D → D) (l : List Int) (h : ∀ i, g (.int i) = .int (f i)) : (l.map D.int).map g = (l.map f).map D.int := by
  rw [List.map_map, List.map_map]; exact List.map_congr_left fun i _ => h i
theorem mem_ints {l : List Int} {d : D} (h : d ∈ l.map D.int) : ∃ i ∈ l, d = .int i := by
  obtain ⟨i, hi, rfl⟩ := List.mem_map.mp h; exact ⟨i, hi, rfl⟩
/-- the claims' amounts -/
def amtG (b : Bk) : D → D | .int i => .int (b.at i).a | d => d
/-! all_owed -/
def m_all_owed {ω : Type} (C : Cn ω) : SM C :=
  (retM (callM sumF (consA (lcM (.nm 2) (iterL (c_claims_on (consA (nameM 0) (consA (nameM 1) nilA)))) yesM (binM ixF (binM ixF (binM ixF (nameM 0) (constM (.int 1))) (nameM 2)) (constM (.int 2))) [2]) nilA)))
abbrev c_all_owed {ω : Type} {C : Cn ω} (ts : AM C) : EM C := callD 2 [] p_all_owed ts

theorem r_all_owed {ω : Type} {C : Cn ω} (ds : List D) (Kp : D → Prop) (hl : ds.length = 2) (hp : p_all_owed ds Kp) (w : ω) : m_all_owed C ⟨fun _ _ => Kp .non, fun d _ => Kp d, fun _ _ => False, fun _ _ => False⟩ (startG 3 [] ds) w := by
  obtain ⟨b, h, rfl, hm, hk⟩ := hp
  rw [st_bk]
  have hl := Mx.on_len b h
  refine ⟨rfl, rfl, b, h, rfl, hm, _, rfl, rfl, ?_⟩
  refine lc_map (amtG b) (fun d hd => ?_) (by rw [List.length_map]; omega) (fun d hd N hN => ?_) ?_
  · obtain ⟨i, hi, rfl⟩ := mem_ints hd; rfl
  · obtain ⟨i, hi, rfl⟩ := mem_ints hd
    obtain ⟨h0, h1, _⟩ := Mx.on_mem.mp hi
    exact ⟨_, rfl, _, at_cl h0 h1, _, rfl, hN _ rfl⟩
  · rw [ints_map (fun i => (b.at i).a) _ _ fun i => rfl]
    exact ⟨_, _, rfl, rfl, rfl, hk⟩
--END all_owed
def p_owed : PD := fun ds K => ∃ (b : Bk) (h : Int), ds = [bkD b, .int h] ∧ BkOk b ∧ 0 ≤ h ∧ h < b.n ∧ K (.int (owe b h))
/-! owed -/
def m_owed {ω : Type} (C : Cn ω) : SM C :=
  (seqM (dropM (c_need_book (consA (nameM 0) nilA)))
  (seqM (dropM (c_need_house (consA (nameM 0) (consA (nameM 1) nilA))))
  (retM (c_all_owed (consA (nameM 0) (consA (nameM 1) nilA))))))
abbrev c_owed {ω : Type} {C : Cn ω} (ts : AM C) : EM C := callD 2 [] p_owed ts

theorem r_owed {ω : Type} {C : Cn ω} (ds : List D) (Kp : D → Prop) (hl : ds.length = 2) (hp : p_owed ds Kp) (w : ω) : m_owed C ⟨fun _ _ => Kp .non, fun d _ => Kp d, fun _ _ => False, fun _ _ => False⟩ (startG 2 [] ds) w := by
  obtain ⟨b, h, rfl, hb, h0, h1, hk⟩ := hp
  rw [st_bk]
  have := hb.m24
  exact ⟨rfl, rfl, b, rfl, hb, rfl, rfl, b, h, rfl, h0, h1, rfl, rfl, b, h, rfl, by omega, rfl, rfl, hk⟩
--END owed
/-! ### dicts of whole numbers -/
theorem dlook_in {ks : List Int} {f : Int → D} {j : Int} (h : j ∈ ks) : dlook ks (ks.map f) j = some (f j) := by
  induction ks with
  | nil => cases h
  | cons k ks ih =>
    show (if k = j then some (f k) else dlook ks (ks.map f) j) = _
    by_cases e : k = j
    · rw [if_pos e, e]
    · rw [if_neg e]
      exact ih ((List.mem_cons.mp h).resolve_left fun z => e z.symm)
theorem dlook_out {ks : List Int} {f : Int → D} {j : Int} (h : j ∉ ks) : dlook ks (ks.map f) j = none := by
  induction ks with
  | nil => rfl
  | cons k ks ih =>
    show (if k = j then some (f k) else dlook ks (ks.map f) j) = _
    rw [if_neg fun e => h (by rw [e]; exact List.mem_cons_self ..)]
    exact ih fun z => h (List.mem_cons_of_mem _ z)
theorem dput_in {ks : List Int} {f : Int → D} {j : Int} {x : D} (hn : ks.Nodup) (h : j ∈ ks) : dputV ks (ks.map f) j x = ks.map fun r => if r = j then x else f r := by
  induction ks with
  | nil => cases h
  | cons k ks ih =>
    obtain ⟨n1, n2⟩ := List.nodup_cons.mp hn
    show (if k = j then x :: ks.map f else f k :: dputV ks (ks.map f) j x) = _
    by_cases e : k = j
    · rw [if_pos e, List.map_cons, if_pos e]
      congr 1
      refine List.map_congr_left fun r hr => ?_
      rw [if_neg fun z => n1 (by rw [e, ← z]; exact hr)]
    · rw [if_neg e, List.map_cons, if_neg e, ih n2 ((List.mem_cons.mp h).resolve_left fun z => e z.symm)]
theorem dput_out {j : Int} {x : D} : ∀ {ks : List Int} {vs : List D}, ks.length = vs.length → j ∉ ks → dputV ks vs j x = vs ++ [x]
  | [], [], _, _ => rfl
  | [], _ :: _, h, _ => by cases h
  | _ :: _, [], h, _ => by cases h
  | k :: ks, v :: vs, h, hn => by
    show (if k = j then x :: vs else v :: dputV ks vs j x) = _
    rw [if_neg fun e => hn (by rw [e]; exact List.mem_cons_self ..), dput_out (by simpa using h) fun z => hn (List.mem_cons_of_mem _ z)]
    rfl
theorem dlook_pairs (j : Int) : ∀ l : List (Int × Int), dlook (l.map (·.1)) (l.map fun z => D.int z.2) j = (l.lookup j).map D.int
  | [] => rfl
  | z :: l => by
    show (if z.1 = j then some (D.int z.2) else dlook (l.map (·.1)) (l.map fun z => D.int z.2) j) = _
    rw [dlook_pairs j l]
    obtain ⟨k, v⟩ := z
    rw [List.lookup_cons]
    by_cases e : k = j
    · subst e; simp
    · have : (j == k) = false := by simpa using fun z => e z.symm
      rw [if_neg e, this]
theorem add_ints {m1 m2 : Md} {xs ys : List Int} {K : Md → D → Prop} (hl : xs.length + ys.length ≤ 1000000) (h : K .F (.lst ((xs ++ ys).map D.int))) : addF (m1, .lst (xs.map D.int)) (m2, .lst (ys.map D.int)) K := by
  refine ⟨by rw [List.length_map, List.length_map]; exact hl, ?_⟩
  rw [← List.map_append, nmL_ints]; exact h
theorem get_ints {l : List Int} {k : Nat} {d : D} (h : (l.map D.int)[k]? = some d) : ∃ i, l[k]? = some i ∧ d = .int i := by
  rw [List.getElem?_map] at h
  cases z : l[k]? with
  | none => rw [z] at h; cases h
  | some i => rw [z] at h; cases h; exact ⟨i, rfl, rfl⟩
/-! ### claims by ranks -/
def gD (b : Bk) (p : List Int) (r : Int) : D := .lst ((p.filter fun i => decide ((b.at i).r = r)).map D.int)
theorem gD_same {b : Bk} {p : List Int} {i r : Int} (h : (b.at i).r ≠ r) : gD b (p ++ [i]) r = gD b p r := by
  unfold gD
  rw [List.filter_append, List.filter_cons_of_neg (by simpa using h)]; simp
theorem gD_more {b : Bk} {p : List Int} {i : Int} : gD b (p ++ [i]) (b.at i).r = .lst (((p.filter fun x => decide ((b.at x).r = (b.at i).r)) ++ [i]).map D.int) := by
  unfold gD
  rw [List.filter_append, List.filter_cons_of_pos (by simp)]; rfl
def p_ranks_of : PD := fun ds K => ∃ (b : Bk) (h : Int), ds = [bkD b, .int h] ∧ BkW b ∧ K (.lst ((Mx.rks b h).map fun r => .lst ((grp b h r).map D.int)))
/-! ranks_of -/
def m_ranks_of {ω : Type} (C : Cn ω) : SM C :=
  (seqM (ownM 2 dnewM)
  (seqM (forM (.nm 3) (iterL (c_claims_on (consA (nameM 0) (consA (nameM 1) nilA)))) (seqM (asgM (.nm 4) (binM ixF (binM ixF (binM ixF (nameM 0) (constM (.int 1))) (nameM 3)) (constM (.int 3))))
  (dsetM 2 (nameM 4) (binM addF (dget2M (nameM 2) (nameM 4) (lstM nilA)) (lstM (consA (nameM 3) nilA))))))
  (retM (lcM (.nm 4) (iterL (callM sortedDF (consA (nameM 2) nilA))) yesM (binM dgetF (nameM 2) (nameM 4)) [4]))))
abbrev c_ranks_of {ω : Type} {C : Cn ω} (ts : AM C) : EM C := callD 2 [] p_ranks_of ts

theorem r_ranks_of {ω : Type} {C : Cn ω} (ds : List D) (Kp : D → Prop) (hl : ds.length = 2) (hp : p_ranks_of ds Kp) (w : ω) : m_ranks_of C ⟨fun _ _ => Kp .non, fun d _ => Kp d, fun _ _ => False, fun _ _ => False⟩ (startG 5 [] ds) w := by
  obtain ⟨b, h, rfl, hb, hk⟩ := hp
  rw [st_bk]
  have hm := hb.m24
  have hl := Mx.on_len b h
  refine ⟨rfl, rfl, rfl, rfl, b, h, rfl, by omega, _, rfl, rfl, ?_⟩
  refine loop_by (fun k Γ w => k ≤ (on b h).length ∧ ∃ (ks : List Int) (s3 s4 : Sl), (∀ d, s4 ≠ .own d) ∧ ks.Nodup ∧ (∀ r, r ∈ ks ↔ ∃ i ∈ (on b h).take k, (b.at i).r = r) ∧ ks.length ≤ k ∧ Γ = [.val true (bkD b), .val true (.int h), .own (.dct ks (ks.map (gD b ((on b h).take k)))), s3, s4]) (fun k d Γ w N hd hI hN => ?_) (fun Γ w hI => ?_) ⟨Nat.zero_le _, [], .no, .no, (fun _ z => by cases z), List.nodup_nil, fun r => by simp, Nat.le_refl _, rfl⟩
  · obtain ⟨hk1, ks, s3, s4, _, nd, hks, hkl, rfl⟩ := hI
    obtain ⟨i, hi, rfl⟩ := get_ints hd
    have hlt : k < (on b h).length := (List.getElem?_eq_some_iff.mp hi).1
    obtain ⟨h0, h1, _⟩ := Mx.on_mem.mp (List.mem_of_getElem? hi)
    have ht : (on b h).take (k + 1) = (on b h).take k ++ [i] := by rw [List.take_add_one, hi]; rfl
    have hfl : ((on b h).take k |>.filter fun x => decide ((b.at x).r = (b.at i).r)).length ≤ 1000 := by
      refine Nat.le_trans (List.length_filter_le _ _) ?_
      rw [List.length_take]; omega
    refine ⟨_, rfl, _, at_cl h0 h1, _, rfl, rfl, ?_⟩
    refine ⟨_, _, rfl, by decide, rfl, _, rfl, ?_⟩
    by_cases hj : (b.at i).r ∈ ks
    · rw [dlook_in hj]
      refine ⟨(by show 1 ≤ 1000; decide), rfl, add_ints (xs := ((on b h).take k).filter fun x => decide ((b.at x).r = (b.at i).r)) (ys := [i]) (by simp; omega) ⟨rfl, rfl, _, _, rfl, _, rfl, nd, by omega, hN _ _ ⟨hlt, ks, .val true (.int i), .val true (.int (b.at i).r), (fun _ z => by cases z), nd, fun r => ?_, by omega, ?_⟩⟩⟩
      · rw [hks, ht]
        constructor
        · rintro ⟨x, hx, e⟩; exact ⟨x, List.mem_append_left _ hx, e⟩
        · rintro ⟨x, hx, e⟩
          rcases List.mem_append.mp hx with hx | hx
          · exact ⟨x, hx, e⟩
          · rw [List.mem_singleton.mp hx] at e
            rw [e] at hj; exact (hks r).mp hj
      · have e1 : dputK ks (b.at i).r = ks := by unfold dputK; rw [if_pos hj]
        show [_, _, Sl.own (.dct (dputK ks (b.at i).r) (dputV ks (ks.map _) (b.at i).r _)), _, _] = _
        rw [e1, dput_in nd hj, ht]
        congr 5
        refine List.map_congr_left fun r hr => ?_
        by_cases e : r = (b.at i).r
        · rw [if_pos e, e, gD_more]
        · rw [if_neg e, gD_same fun z => e z.symm]
    · rw [dlook_out hj]
      refine ⟨(by show 1 ≤ 1000; decide), rfl, add_ints (xs := []) (ys := [i]) (by simp) ⟨rfl, rfl, _, _, rfl, _, rfl, nd, by omega, hN _ _ ⟨hlt, ks ++ [(b.at i).r], .val true (.int i), .val true (.int (b.at i).r), (fun _ z => by cases z), ?_, fun r => ?_, by simp; omega, ?_⟩⟩⟩
      · exact List.nodup_append.mpr ⟨nd, by simp, fun x hx y hy => by rw [List.mem_singleton.mp hy]; exact fun z => hj (by rw [← z]; exact hx)⟩
      · rw [ht, List.mem_append, hks]
        constructor
        · rintro (⟨x, hx, e⟩ | hr)
          · exact ⟨x, List.mem_append_left _ hx, e⟩
          · exact ⟨i, by simp, (List.mem_singleton.mp hr).symm⟩
        · rintro ⟨x, hx, e⟩
          rcases List.mem_append.mp hx with hx | hx
          · exact .inl ⟨x, hx, e⟩
          · rw [List.mem_singleton.mp hx] at e
            exact .inr (by rw [← e]; simp)
      · have e1 : dputK ks (b.at i).r = ks ++ [(b.at i).r] := by unfold dputK; rw [if_neg hj]
        show [_, _, Sl.own (.dct (dputK ks (b.at i).r) (dputV ks (ks.map _) (b.at i).r _)), _, _] = _
        rw [e1, dput_out (by simp) hj, ht]
        congr 5
        rw [List.map_append (f := gD b _)]
        congr 1
        · refine List.map_congr_left fun r hr => ?_
          exact (gD_same fun z => hj (by rw [z]; exact hr)).symm
        · rw [List.map_singleton, gD_more]
          have e2 : (((on b h).take k).filter fun x => decide ((b.at x).r = (b.at i).r)) = [] := by
            rw [List.filter_eq_nil_iff]
            intro x hx z
            exact hj ((hks _).mpr ⟨x, hx, by simpa using z⟩)
          rw [e2]
  · obtain ⟨_, ks, s3, s4, hs4, nd, hks, hkl, rfl⟩ := hI
    rw [List.length_map, List.take_length] at *
    have er : srt ks = Mx.rks b h := Mx.rks_of hb (srt_up ks) ((srt_perm ks).nodup_iff.mpr nd) fun r => by rw [(srt_perm ks).mem_iff, hks]
    refine ⟨_, rfl, by cases s4 <;> first | rfl | exact absurd rfl (hs4 _), ?_⟩
    rw [er]
    refine lc_by (fun k w m acc => (m = .F ∨ m = .PF) ∧ k ≤ (Mx.rks b h).length ∧ acc = ((Mx.rks b h).take k).map fun r => .lst ((grp b h r).map D.int)) (fun k d w m acc N hd hI hN => ?_) (fun w m acc hI => ?_) ⟨.inl rfl, Nat.zero_le _, rfl⟩
    · obtain ⟨hm', hk1, rfl⟩ := hI
      obtain ⟨r, hr, rfl⟩ := get_ints hd
      have hlt : k < (Mx.rks b h).length := (List.getElem?_eq_some_iff.mp hr).1
      have hrk : r ∈ ks := (srt_perm ks).mem_iff.mp (by rw [er]; exact List.mem_of_getElem? hr)
      have h9 : (Mx.rks b h).length ≤ 9 := List.length_filter_le _ _
      refine ⟨_, dlook_in hrk, rfl, by rw [List.length_map, List.length_take]; omega, hN _ _ _ ⟨.inr ?_, hlt, ?_⟩⟩
      · rcases hm' with rfl | rfl <;> rfl
      · rw [List.take_add_one, hr, List.map_append]; rfl
    · obtain ⟨hm', _, rfl⟩ := hI
      rw [List.length_map, List.take_length]
      rcases hm' with rfl | rfl <;> exact ⟨rfl, rfl, hk⟩
--END ranks_of
theorem amok_amts {b : Bk} {g : List Int} (h : Mx.Amt b g) (hl : g.length ≤ 1000) : AmOk (Mx.amts b g) := ⟨by unfold Mx.amts; rw [List.length_map]; exact hl, fun i hi => by
  have h1 := h.pos i hi
  have h2 := h.hi (at' (Mx.amts b g) i) (by
    unfold at'
    rw [List.getD_eq_getElem?_getD, List.getElem?_eq_getElem hi]
    exact List.getElem_mem hi)
  omega⟩
theorem zip_get {xs ys : List Int} {k : Nat} {d : D} (h : (zipD (xs.map D.int) (ys.map D.int))[k]? = some d) : ∃ z : Int × Int, (xs.zip ys)[k]? = some z ∧ d = .tup [.int z.1, .int z.2] := by
  unfold zipD at h
  rw [List.getElem?_zipWith] at h
  cases e1 : (xs.map D.int)[k]? with
  | none => rw [e1] at h; cases h
  | some x =>
    cases e2 : (ys.map D.int)[k]? with
    | none => rw [e1, e2] at h; cases h
    | some y =>
      rw [e1, e2] at h
      cases h
      obtain ⟨i, f1, rfl⟩ := get_ints e1
      obtain ⟨j, f2, rfl⟩ := get_ints e2
      exact ⟨(i, j), by rw [List.getElem?_zip_eq_some]; exact ⟨f1, f2⟩, rfl⟩
/-- the dict of pairs -/
def dP (l : List (Int × Int)) : D := .dct (l.map (·.1)) (l.map fun z => .int z.2)
theorem dP_put {l : List (Int × Int)} {z : Int × Int} (h : z.1 ∉ l.map (·.1)) : D.dct (dputK (l.map (·.1)) z.1) (dputV (l.map (·.1)) (l.map fun z => .int z.2) z.1 (.int z.2)) = dP (l ++ [z]) := by
  unfold dputK dP
  rw [if_neg h, dput_out (by simp) h, List.map_append, List.map_append]
  rfl
/-- claims whose coins are put into a dict, one after the other: no claim twice -/
theorem fresh_in {l u : List (Int × Int)} {k : Nat} {z : Int × Int} (hn : ((l ++ u).map (·.1)).Nodup) (hz : u[k]? = some z) : z.1 ∉ (l ++ u.take k).map (·.1) ∧ ((l ++ u.take k).map (·.1)).Nodup := by
  have e : u = u.take k ++ (z :: u.drop (k + 1)) := by
    obtain ⟨hk, e⟩ := List.getElem?_eq_some_iff.mp hz
    rw [← e, List.getElem_cons_drop, List.take_append_drop]
  rw [e, ← List.append_assoc, List.map_append] at hn
  obtain ⟨h1, h2, h3⟩ := List.nodup_append.mp hn
  exact ⟨fun q => h3 _ q z.1 (by simp) rfl, h1⟩
theorem payP_len {b : Bk} (hb : BkW b) (h : Int) {m : Int} (h0 : 0 ≤ m) : (payP b h m).length ≤ 24 := by
  have := (Mx.payP_keys hb h h0).length_eq
  rw [List.length_map] at this
  have h2 := Mx.on_len b h
  have := hb.m24
  omega
def p_paid_with : PD := fun ds K => ∃ (b : Bk) (h m : Int), ds = [bkD b, .int h, .int m] ∧ BkW b ∧ 0 ≤ m ∧ m ≤ 1000000 ∧ K (dP (payP b h m))
/-! paid_with -/
def m_paid_with {ω : Type} (C : Cn ω) : SM C :=
  (seqM (ownM 3 dnewM)
  (seqM (forM (.nm 4) (iterL (c_ranks_of (consA (nameM 0) (consA (nameM 1) nilA)))) (seqM (asgM (.nm 5) (c_shared (consA (lcM (.nm 6) (iterL (nameM 4)) yesM (binM ixF (binM ixF (binM ixF (nameM 0) (constM (.int 1))) (nameM 6)) (constM (.int 2))) [6]) (consA (nameM 2) nilA))))
  (seqM (forM (.tp [6, 7]) (iterZ (consA (nameM 4) (consA (nameM 5) nilA))) (dsetM 3 (nameM 6) (nameM 7)))
  (asgM (.nm 2) (binM subF (nameM 2) (callM sumF (consA (nameM 5) nilA)))))))
  (frzM 3 (retM (nameM 3)))))
abbrev c_paid_with {ω : Type} {C : Cn ω} (ts : AM C) : EM C := callD 3 [] p_paid_with ts

theorem r_paid_with {ω : Type} {C : Cn ω} (ds : List D) (Kp : D → Prop) (hl : ds.length = 3) (hp : p_paid_with ds Kp) (w : ω) : m_paid_with C ⟨fun _ _ => Kp .non, fun d _ => Kp d, fun _ _ => False, fun _ _ => False⟩ (startG 8 [] ds) w := by
  obtain ⟨b, h, m, rfl, hb, hm0, hm1, hk⟩ := hp
  rw [st_bk]
  have hm := hb.m24
  have hnd := Mx.payP_nodup hb h hm0
  have hpl := payP_len hb h hm0
  refine ⟨rfl, rfl, rfl, rfl, b, h, rfl, hb, _, rfl, rfl, ?_⟩
  refine loop_by (fun k Γ w => k ≤ (Mx.rks b h).length ∧ ∃ (l : List (Int × Int)) (m' : Int) (s4 s5 s6 s7 : Sl), 0 ≤ m' ∧ m' ≤ 1000000 ∧ (∀ d, s6 ≠ .own d) ∧ l ++ payG b (((Mx.rks b h).drop k).map (grp b h)) m' = payP b h m ∧ Γ = [.val true (bkD b), .val true (.int h), .val true (.int m'), .own (dP l), s4, s5, s6, s7]) (fun k d Γ w N hd hI hN => ?_) (fun Γ w hI => ?_) ⟨Nat.zero_le _, [], m, .no, .no, .no, .no, hm0, hm1, (fun _ z => by cases z), Mx.payP_rks b h m, rfl⟩
  · obtain ⟨hk1, l, m', s4, s5, s6, s7, m0, m1, hs6, he, rfl⟩ := hI
    have hg : ∃ r, (Mx.rks b h)[k]? = some r ∧ d = .lst ((grp b h r).map D.int) := by
      rw [List.getElem?_map] at hd
      cases z : (Mx.rks b h)[k]? with
      | none => rw [z] at hd; cases hd
      | some r => rw [z] at hd; cases hd; exact ⟨r, rfl, rfl⟩
    obtain ⟨r, hr, rfl⟩ := hg
    have hlt : k < (Mx.rks b h).length := (List.getElem?_eq_some_iff.mp hr).1
    have ed : (Mx.rks b h).drop k = r :: (Mx.rks b h).drop (k + 1) := by
      rw [List.drop_eq_getElem_cons hlt]
      congr 1
      exact (List.getElem?_eq_some_iff.mp hr).2
    rw [ed, List.map_cons] at he
    have hA : Mx.Amt b (grp b h r) := Mx.amt_on hb Mx.grp_sub
    have hgl : (grp b h r).length ≤ 24 := by
      have h1 : (grp b h r).length ≤ (on b h).length := List.length_filter_le _ _
      have h2 := Mx.on_len b h
      omega
    obtain ⟨q0, q1⟩ := Mx.sh_left hA m0
    have hsl := Mx.sh_len' hA m0
    change l ++ ((grp b h r).zip (sh (Mx.amts b (grp b h r)) m') ++ payG b (((Mx.rks b h).drop (k + 1)).map (grp b h)) (m' - (sh (Mx.amts b (grp b h r)) m').sum)) = _ at he
    generalize hsv : sh (Mx.amts b (grp b h r)) m' = sv at *
    refine ⟨_, rfl, ?_, ?_⟩
    · cases s6 <;> first | rfl | exact absurd rfl (hs6 _)
    refine lc_map (amtG b) (fun d hd => ?_) (by rw [List.length_map]; omega) (fun d hd N hN => ?_) ?_
    · obtain ⟨i, hi, rfl⟩ := mem_ints hd; rfl
    · obtain ⟨i, hi, rfl⟩ := mem_ints hd
      obtain ⟨h0, h1, _⟩ := Mx.on_mem.mp (Mx.grp_sub i hi)
      exact ⟨_, rfl, _, at_cl h0 h1, _, rfl, hN _ rfl⟩
    rw [ints_map (fun i => (b.at i).a) _ _ fun i => rfl]
    refine ⟨rfl, rfl, Mx.amts b (grp b h r), m', rfl, amok_amts hA (by omega), m0, m1, rfl, ?_⟩
    rw [hsv]
    refine ⟨_, _, _, _, rfl, flats_ints _, flats_ints _, rfl, ?_⟩
    have hz : ((grp b h r).zip sv).length ≤ 24 := by rw [List.length_zip]; omega
    have hnd2 : ((l ++ (grp b h r).zip sv).map (·.1)).Nodup := by
      rw [← he, ← List.append_assoc, List.map_append] at hnd
      exact (List.nodup_append.mp hnd).1
    have hll : l.length ≤ 24 := by
      have := congrArg List.length he
      rw [List.length_append] at this
      omega
    have zl : (zipD ((grp b h r).map D.int) (sv.map D.int)).length = ((grp b h r).zip sv).length := by unfold zipD; simp
    refine loop_by (fun j Γ w => ∃ s6 s7 : Sl, (∀ d, s6 ≠ .own d) ∧ Γ = [.val true (bkD b), .val true (.int h), .val true (.int m'), .own (dP (l ++ ((grp b h r).zip sv).take j)), .val true (.lst ((grp b h r).map D.int)), .val true (.lst (sv.map D.int)), s6, s7]) (fun j d Γ w N' hd hI hN' => ?_) (fun Γ w hI => ?_) ⟨s6, s7, hs6, by rw [List.take_zero, List.append_nil]; rfl⟩
    · obtain ⟨s6, s7, _, rfl⟩ := hI
      obtain ⟨z, hz1, rfl⟩ := zip_get hd
      obtain ⟨f1, f2⟩ := fresh_in hnd2 hz1
      refine asg_tp2 rfl rfl ⟨rfl, rfl, _, _, rfl, _, rfl, f2, by simp; omega, hN' _ _ ⟨.val true (.int z.1), .val true (.int z.2), (fun _ z => by cases z), ?_⟩⟩
      show [_, _, _, Sl.own (.dct (dputK ((l ++ _).map (·.1)) z.1) (dputV ((l ++ _).map (·.1)) ((l ++ _).map fun z => .int z.2) z.1 (.int z.2))), _, _, _, _] = _
      rw [dP_put f1, List.append_assoc, List.take_add_one, hz1]
      rfl
    · obtain ⟨s6, s7, hs6, rfl⟩ := hI
      rw [zl, List.take_length]
      refine ⟨_, sv, rfl, rfl, hN _ _ ⟨hlt, l ++ (grp b h r).zip sv, m' - sv.sum, _, _, _, _, q0, by omega, hs6, ?_, rfl⟩⟩
      rw [List.append_assoc]; exact he
  · obtain ⟨_, l, m', s4, s5, s6, s7, m0, m1, hs6, he, rfl⟩ := hI
    rw [List.length_map, List.drop_length] at he
    have : l = payP b h m := by rw [← he]; show l = l ++ []; simp
    rw [this]
    exact ⟨rfl, rfl, hk⟩
--END paid_with
def psD (b : Bk) (h m : Int) : D := .lst ((Mx.payS b h m).map pD)
def p_paid_by : PD := fun ds K => ∃ (b : Bk) (h m : Int), ds = [bkD b, .int h, .int m] ∧ BkOk b ∧ 0 ≤ h ∧ h < b.n ∧ 0 ≤ m ∧ m ≤ 1000000 ∧ K (psD b h m)
theorem pays_of {b : Bk} (hb : BkW b) (h : Int) {m : Int} (h0 : 0 ≤ m) {zs : List (Int × Int)} (hp : zs.Perm (payP b h m)) (hs : zs.Pairwise fun x y => SrtO.lexB y x = false) : zs = Mx.payS b h m :=
  Mx.payS_of hb h h0 hp (hs.imp fun {x y} h => by have := SrtO.lexB_no.mp h; omega)
/-! paid_by -/
def m_paid_by {ω : Type} (C : Cn ω) : SM C :=
  (seqM (dropM (c_need_book (consA (nameM 0) nilA)))
  (seqM (dropM (c_need_house (consA (nameM 0) (consA (nameM 1) nilA))))
  (retM (sortItemsM (c_paid_with (consA (nameM 0) (consA (nameM 1) (consA (nameM 2) nilA))))))))
abbrev c_paid_by {ω : Type} {C : Cn ω} (ts : AM C) : EM C := callD 3 [] p_paid_by ts

theorem r_paid_by {ω : Type} {C : Cn ω} (ds : List D) (Kp : D → Prop) (hl : ds.length = 3) (hp : p_paid_by ds Kp) (w : ω) : m_paid_by C ⟨fun _ _ => Kp .non, fun d _ => Kp d, fun _ _ => False, fun _ _ => False⟩ (startG 3 [] ds) w := by
  obtain ⟨b, h, m, rfl, hb, h0, h1, hm0, hm1, hk⟩ := hp
  rw [st_bk]
  refine ⟨rfl, rfl, b, rfl, hb, rfl, rfl, b, h, rfl, h0, h1, rfl, rfl, b, h, m, rfl, hb, hm0, hm1, payP b h m, rfl, fun zs pm pw => ⟨rfl, rfl, ?_⟩⟩
  rw [pays_of hb h hm0 pm pw]
  exact hk
--END paid_by
/-! ### the law's own reckoning -/
theorem lc_sel {ω : Type} {C : Cn ω} {tg : Tg} {fr : Bool} {tt : BM C} {te : EM C} {Γ : List Sl} {K : Md → List D → ω → Prop} (p : Int → Bool) {l : List Int} {w : ω} (hl : l.length < 1000000)
    (hs : ∀ i ∈ l, ∀ (R : Bool → ω → Prop), R (p i) w → tg.asg fr (.int i) Γ fun Γ' => tt Γ' w R) (he : ∀ i ∈ l, ∀ (R : Md → D → ω → Prop), (∀ md, md.ok = true → R md (.int i) w) → tg.asg fr (.int i) Γ fun Γ' => te Γ' w R)
    (ht : ∀ i, ∃ Γ' : List Sl, ∀ P : List Sl → Prop, tg.asg fr (.int i) Γ P ↔ P Γ') (hd : K .F ((l.filter p).map D.int) w) : lcLoop tg fr tt te Γ K (l.map D.int) w .F [] := by
  refine lc_by (fun k w' m acc => w' = w ∧ m = .F ∧ k ≤ l.length ∧ acc = ((l.take k).filter p).map D.int) (fun k d w' m acc N h1 h2 h3 => ?_) (fun w' m acc h => ?_) ⟨rfl, rfl, Nat.zero_le _, rfl⟩
  · obtain ⟨rfl, rfl, hk, rfl⟩ := h2
    obtain ⟨i, hi, rfl⟩ := get_ints h1
    have hm := List.mem_of_getElem? hi
    have hlt : k < l.length := (List.getElem?_eq_some_iff.mp hi).1
    obtain ⟨Γ', hΓ⟩ := ht i
    have htk : l.take (k + 1) = l.take k ++ [i] := by rw [List.take_add_one, hi]; rfl
    refine (hΓ _).mpr ((hΓ _).mp (hs i hm _ ?_))
    have hfl : ((l.take k).filter p).length ≤ k := Nat.le_trans (List.length_filter_le _ _) (by rw [List.length_take]; omega)
    refine ite2 (fun q => ?_) (fun q => ?_)
    · exact (hΓ _).mp (he i hm _ fun md ho => ⟨ho, by rw [List.length_map]; omega, h3 _ _ _ ⟨rfl, rfl, hlt, by rw [htk, List.filter_append, List.filter_cons_of_pos q, List.map_append]; rfl⟩⟩)
    · exact h3 _ _ _ ⟨rfl, rfl, hlt, by rw [htk, List.filter_append, List.filter_cons_of_neg (by simpa using q)]; simp⟩
  · obtain ⟨rfl, rfl, _, rfl⟩ := h
    rw [List.length_map, List.take_length]; exact hd
theorem pick_range {f : Cl → Bool} {b : Bk} : ((List.range b.m).map fun (k : Nat) => ((k : Nat) : Int)).filter (fun i => f (b.at i)) = pick f 0 b.cl := by
  refine Mx.up_ext ?_ Mx.pick_up fun i => ?_
  · refine List.Pairwise.filter _ (List.pairwise_map.mpr (List.pairwise_lt_range.imp fun h => by omega))
  · rw [List.mem_filter, Mx.pick_mem, List.mem_map]
    simp only [List.mem_range, Int.sub_zero, Int.zero_add]
    constructor
    · rintro ⟨⟨k, hk, rfl⟩, h⟩; exact ⟨by omega, by unfold Bk.m at hk; omega, h⟩
    · rintro ⟨h0, h1, h2⟩; exact ⟨⟨i.toNat, by unfold Bk.m; omega, by omega⟩, h2⟩
theorem rng_nat (n : Nat) : rngD 0 (n : Int) = ((List.range n).map fun (k : Nat) => ((k : Nat) : Int)).map D.int := by
  unfold rngD
  rw [List.map_map, show ((n : Int) - 0).toNat = n by omega]
  exact List.map_congr_left fun k _ => by show D.int (0 + (k : Int)) = .int (k : Int); rw [Int.zero_add]
theorem drop9 {k : Nat} (h : k < 9) : ranks9.drop k = (1 + (k : Int)) :: ranks9.drop (k + 1) := by
  have : k = 0 ∨ k = 1 ∨ k = 2 ∨ k = 3 ∨ k = 4 ∨ k = 5 ∨ k = 6 ∨ k = 7 ∨ k = 8 := by omega
  rcases this with rfl | rfl | rfl | rfl | rfl | rfl | rfl | rfl | rfl <;> rfl
theorem nown (s : Sl) {i : Nat} {Γ : List Sl} (hs : ∀ d, s ≠ .own d) (h : Γ[i]? = some s) : [i].all (notOwn Γ) = true := by
  show (notOwn Γ i && true) = true
  unfold notOwn
  rw [h]
  cases s <;> first | rfl | exact absurd rfl (hs _)
abbrev p_l_paid : PD := p_paid_with
/-! l_paid -/
def m_l_paid {ω : Type} (C : Cn ω) : SM C :=
  (seqM (ownM 3 dnewM)
  (seqM (forM (.nm 4) (iterR2 (consA (constM (.int 1)) (consA (constM (.int 10)) nilA))) (seqM (asgM (.nm 5) (lcM (.nm 7) (iterR1 (consA (callM lenF (consA (binM ixF (nameM 0) (constM (.int 1))) nilA)) nilA)) (testM (binM eqF (binM ixF (binM ixF (binM ixF (nameM 0) (constM (.int 1))) (nameM 7)) (constM (.int 0))) (nameM 1))) (nameM 7) [7]))
  (seqM (asgM (.nm 5) (lcM (.nm 7) (iterL (nameM 5)) (testM (binM eqF (binM ixF (binM ixF (binM ixF (nameM 0) (constM (.int 1))) (nameM 7)) (constM (.int 3))) (nameM 4))) (nameM 7) [7]))
  (seqM (asgM (.nm 6) (c_l_shared (consA (lcM (.nm 7) (iterL (nameM 5)) yesM (binM ixF (binM ixF (binM ixF (nameM 0) (constM (.int 1))) (nameM 7)) (constM (.int 2))) [7]) (consA (nameM 2) nilA))))
  (seqM (forM (.nm 7) (iterR1 (consA (callM lenF (consA (nameM 5) nilA)) nilA)) (dsetM 3 (binM ixF (nameM 5) (nameM 7)) (binM ixF (nameM 6) (nameM 7))))
  (asgM (.nm 2) (binM subF (nameM 2) (callM sumF (consA (nameM 6) nilA)))))))))
  (frzM 3 (retM (nameM 3)))))
abbrev c_l_paid {ω : Type} {C : Cn ω} (ts : AM C) : EM C := callD 3 [] p_l_paid ts

theorem r_l_paid {ω : Type} {C : Cn ω} (ds : List D) (Kp : D → Prop) (hl : ds.length = 3) (hp : p_l_paid ds Kp) (w : ω) : m_l_paid C ⟨fun _ _ => Kp .non, fun d _ => Kp d, fun _ _ => False, fun _ _ => False⟩ (startG 8 [] ds) w := by
  obtain ⟨b, h, m, rfl, hb, hm0, hm1, hk⟩ := hp
  rw [st_bk]
  have hm := hb.m24
  have hnd := Mx.payP_nodup hb h hm0
  have hpl := payP_len hb h hm0
  have lm : (b.cl.map clD).length = b.m := List.length_map _
  refine ⟨rfl, rfl, _, _, _, _, rfl, by decide, by decide, by decide, by decide, rfl, ?_⟩
  refine loop_by (fun k Γ w => k ≤ 9 ∧ ∃ (l : List (Int × Int)) (m' : Int) (s4 s5 s6 s7 : Sl), 0 ≤ m' ∧ m' ≤ 1000000 ∧ (∀ d, s7 ≠ .own d) ∧ l ++ payG b ((ranks9.drop k).map (grp b h)) m' = payP b h m ∧ Γ = [.val true (bkD b), .val true (.int h), .val true (.int m'), .own (dP l), s4, s5, s6, s7]) (fun k d Γ w N hd hI hN => ?_) (fun Γ w hI => ?_) ⟨Nat.zero_le _, [], m, .no, .no, .no, .no, hm0, hm1, (fun _ z => by cases z), rfl, rfl⟩
  · obtain ⟨hk1, l, m', s4, s5, s6, s7, m0, m1, hs7, he, rfl⟩ := hI
    obtain ⟨rfl, hk2⟩ := rng_get hd
    have hlt : k < 9 := by omega
    rw [drop9 hlt, List.map_cons] at he
    generalize hr : (1 : Int) + (k : Int) = r at *
    have hA : Mx.Amt b (grp b h r) := Mx.amt_on hb Mx.grp_sub
    have hol := Mx.on_len b h
    have hgl : (grp b h r).length ≤ 24 := by
      have h1 : (grp b h r).length ≤ (on b h).length := List.length_filter_le _ _
      omega
    obtain ⟨q0, q1⟩ := Mx.sh_left hA m0
    have hsl := Mx.sh_len' hA m0
    change l ++ ((grp b h r).zip (sh (Mx.amts b (grp b h r)) m') ++ payG b ((ranks9.drop (k + 1)).map (grp b h)) (m' - (sh (Mx.amts b (grp b h r)) m').sum)) = _ at he
    generalize hsv : sh (Mx.amts b (grp b h r)) m' = sv at *
    refine ⟨_, rfl, _, _, rfl, by rw [lm]; omega, by rw [lm]; omega, nown s7 hs7 rfl, ?_⟩
    rw [lm, rng_nat]
    refine lc_sel (fun i => decide ((b.at i).d = h)) (by simp; omega) (fun i hi R hR => ?_) (fun i hi R hR => hR _ rfl) (fun i => ⟨_, fun P => Iff.rfl⟩) ⟨rfl, ?_⟩
    · obtain ⟨j, hj, rfl⟩ := List.mem_map.mp hi
      rw [List.mem_range] at hj
      refine ⟨_, rfl, _, at_cl (by omega) (by omega), _, rfl, cmp_int _, cmp_int _, _, rfl, ?_⟩
      rw [eqv_int]; exact hR
    rw [show (((List.range b.m).map fun (k : Nat) => ((k : Nat) : Int)).filter fun i => decide ((b.at i).d = h)) = on b h from pick_range (f := fun x => decide (x.d = h))]
    refine ⟨_, rfl, nown s7 hs7 rfl, ?_⟩
    refine lc_sel (fun i => decide ((b.at i).r = r)) (by omega) (fun i hi R hR => ?_) (fun i hi R hR => hR _ rfl) (fun i => ⟨_, fun P => Iff.rfl⟩) ⟨rfl, ?_⟩
    · obtain ⟨h0, h1, _⟩ := Mx.on_mem.mp hi
      refine ⟨_, rfl, _, at_cl h0 h1, _, rfl, cmp_int _, cmp_int _, _, rfl, ?_⟩
      rw [eqv_int]; exact hR
    change Tg.asg _ (.lst ((grp b h r).map D.int)) _ _ (.nm 5)
    refine ⟨_, rfl, nown s7 hs7 rfl, ?_⟩
    refine lc_map (amtG b) (fun d hd => ?_) (by rw [List.length_map]; omega) (fun d hd N hN => ?_) ?_
    · obtain ⟨i, hi, rfl⟩ := mem_ints hd; rfl
    · obtain ⟨i, hi, rfl⟩ := mem_ints hd
      obtain ⟨h0, h1, _⟩ := Mx.on_mem.mp (Mx.grp_sub i hi)
      exact ⟨_, rfl, _, at_cl h0 h1, _, rfl, hN _ rfl⟩
    rw [ints_map (fun i => (b.at i).a) _ _ fun i => rfl]
    refine ⟨rfl, rfl, Mx.amts b (grp b h r), m', rfl, amok_amts hA (by omega), m0, m1, rfl, ?_⟩
    rw [hsv]
    refine ⟨_, _, rfl, by rw [List.length_map]; omega, by rw [List.length_map]; omega, rfl, ?_⟩
    have hz : ((grp b h r).zip sv).length = (grp b h r).length := by rw [List.length_zip]; omega
    have hnd2 : ((l ++ (grp b h r).zip sv).map (·.1)).Nodup := by
      rw [← he, ← List.append_assoc, List.map_append] at hnd
      exact (List.nodup_append.mp hnd).1
    have hll : l.length ≤ 24 := by
      have := congrArg List.length he
      rw [List.length_append] at this
      omega
    refine loop_by (fun j Γ w => ∃ s7 : Sl, (∀ d, s7 ≠ .own d) ∧ Γ = [.val true (bkD b), .val true (.int h), .val true (.int m'), .own (dP (l ++ ((grp b h r).zip sv).take j)), .val true (.int r), .val true (.lst ((grp b h r).map D.int)), .val true (.lst (sv.map D.int)), s7]) (fun j d Γ w N' hd hI hN' => ?_) (fun Γ w hI => ?_) ⟨s7, hs7, by rw [List.take_zero, List.append_nil]; rfl⟩
    · obtain ⟨s7, _, rfl⟩ := hI
      obtain ⟨rfl, hj⟩ := rng_get hd
      rw [List.length_map] at hj
      have g1 := at_ints (ns := grp b h r) (i := 0 + (j : Int)) (by omega) (by omega)
      have g2 := at_ints (ns := sv) (i := 0 + (j : Int)) (by omega) (by omega)
      have e0 : (0 + (j : Int)).toNat = j := by omega
      rw [e0] at g1 g2
      have hz1 : ((grp b h r).zip sv)[j]? = some ((grp b h r).getD j 0, sv.getD j 0) := by
        rw [List.getElem?_zip_eq_some]
        have j1 : j < (grp b h r).length := by omega
        have j2 : j < sv.length := by omega
        exact ⟨by simp [j1], by simp [j2]⟩
      obtain ⟨f1, f2⟩ := fresh_in hnd2 hz1
      refine ⟨_, g2, rfl, rfl, _, _, rfl, _, g1, _, rfl, f2, by simp; omega, hN' _ _ ⟨.val true (.int (0 + (j : Int))), (fun _ z => by cases z), ?_⟩⟩
      show [_, _, _, Sl.own (.dct (dputK ((l ++ _).map (·.1)) ((grp b h r).getD j 0, sv.getD j 0).1) (dputV ((l ++ _).map (·.1)) ((l ++ _).map fun z => .int z.2) ((grp b h r).getD j 0, sv.getD j 0).1 (.int ((grp b h r).getD j 0, sv.getD j 0).2))), _, _, _, _] = _
      rw [dP_put f1, List.append_assoc, List.take_add_one, hz1]
      rfl
    · obtain ⟨s7, hs7, rfl⟩ := hI
      rw [rng_len, List.length_map, show (((grp b h r).length : Int) - 0).toNat = (grp b h r).length by omega, ← hz, List.take_length]
      refine ⟨_, sv, rfl, rfl, hN _ _ ⟨hlt, l ++ (grp b h r).zip sv, m' - sv.sum, _, _, _, _, q0, by omega, hs7, ?_, rfl⟩⟩
      rw [List.append_assoc]; exact he
  · obtain ⟨_, l, m', s4, s5, s6, s7, m0, m1, hs7, he, rfl⟩ := hI
    rw [rng_len] at he
    have : l = payP b h m := by rw [← he]; show l = l ++ []; simp
    rw [this]
    exact ⟨rfl, rfl, hk⟩
--END l_paid
/-! ### a drawn book -/
def top (wd : Int) : Int := max 20 wd
def p_l_book : PDW := fun ds r K => ∃ hs cs wd : Int, ds = [.int hs, .int cs, .int wd] ∧ 1 ≤ hs ∧ hs ≤ 8 ∧ 0 ≤ cs ∧ cs ≤ 24 ∧ 1 ≤ wd ∧ wd ≤ 999 ∧
  ∀ (b : Bk) (r' : Rng), BkOk b → (b.n : Int) ≤ hs → (b.m : Int) ≤ cs → (∀ x ∈ b.cl, x.a ≤ top wd) → (∀ x ∈ b.cash, x ≤ top wd) → K (bkD b) r'
theorem wide_of {wd v : Int} (h0 : 0 ≤ v) (h1 : v < 3) (hw : 1 ≤ wd) : ∃ m : Int, atI [D.int 4, .int 20, .int wd] v = some (.int m) ∧ 1 ≤ m ∧ m ≤ top wd := by
  have : v = 0 ∨ v = 1 ∨ v = 2 := by omega
  unfold top
  rcases this with rfl | rfl | rfl
  · exact ⟨4, rfl, by omega, by omega⟩
  · exact ⟨20, rfl, by omega, by omega⟩
  · exact ⟨wd, rfl, by omega, by omega⟩
theorem rank_of {v : Int} (h0 : 0 ≤ v) (h1 : v < 3) : ∃ m : Int, atI [D.int 1, .int 3, .int 9] v = some (.int m) ∧ 1 ≤ m ∧ m ≤ 9 := by
  have : v = 0 ∨ v = 1 ∨ v = 2 := by omega
  rcases this with rfl | rfl | rfl
  · exact ⟨1, rfl, by decide, by decide⟩
  · exact ⟨3, rfl, by decide, by decide⟩
  · exact ⟨9, rfl, by decide, by decide⟩
theorem other_house {n d v : Int} (hn : 1 < n) (d0 : 0 ≤ d) (d1 : d < n) (v0 : 0 ≤ v) (v1 : v < n - 1) : 0 ≤ (d + 1 + v) % n ∧ (d + 1 + v) % n < n ∧ d ≠ (d + 1 + v) % n := by
  refine ⟨Int.emod_nonneg _ (by omega), Int.emod_lt_of_pos _ (by omega), ?_⟩
  by_cases h : d + 1 + v < n
  · rw [Int.emod_eq_of_lt (by omega) h]; omega
  · have : (d + 1 + v) % n = d + 1 + v - n := by
      have e : d + 1 + v = (d + 1 + v - n) + n := by omega
      rw [e, Int.add_emod_right, Int.emod_eq_of_lt (by omega) (by omega)]
      omega
    omega
theorem jn_bk (b : Bk) (m1 m2 : Md) : jn [(m1, cashD b), (m2, clsD b)] = .F := by
  show (nm m1 (cashD b)).max ((nm m2 (clsD b)).max .F) = .F
  unfold nm
  rw [if_pos (flat_cash b), if_pos (flat_cls b)]; rfl
/-! law book["h", "houses", "claims", "wide", "many", "most", "ranks", "cash", "rows", "k", "debtor", "creditor"] -/
def m_l_book (C : Cn Rng) : SM C :=
  (seqM (asgM (.nm 4) (binM addF (constM (.int 1)) (c_l_next (consA (nameM 0) (consA (nameM 1) nilA)))))
  (seqM (asgM (.nm 5) (binM ixF (lstM (consA (constM (.int 4)) (consA (constM (.int 20)) (consA (nameM 3) nilA)))) (c_l_next (consA (nameM 0) (consA (constM (.int 3)) nilA)))))
  (seqM (asgM (.nm 6) (binM ixF (lstM (consA (constM (.int 1)) (consA (constM (.int 3)) (consA (constM (.int 9)) nilA)))) (c_l_next (consA (nameM 0) (consA (constM (.int 3)) nilA)))))
  (seqM (asgM (.nm 7) (callM tupleF (consA (lcM (.nm 9) (iterR1 (consA (nameM 4) nilA)) yesM (binM mulF (c_l_next (consA (nameM 0) (consA (binM addF (nameM 5) (constM (.int 1))) nilA))) (callM intCF (consA (binM gtF (c_l_next (consA (nameM 0) (consA (constM (.int 3)) nilA))) (constM (.int 0))) nilA))) [9]) nilA)))
  (seqM (ownM 8 (lstM nilA))
  (seqM (forM (.nm 9) (iterR1 (consA (binM mulF (c_l_next (consA (nameM 0) (consA (binM addF (nameM 2) (constM (.int 1))) nilA))) (callM intCF (consA (binM gtF (nameM 4) (constM (.int 1))) nilA))) nilA)) (seqM (asgM (.nm 10) (c_l_next (consA (nameM 0) (consA (nameM 4) nilA))))
  (seqM (asgM (.nm 11) (binM modF (binM addF (binM addF (nameM 10) (constM (.int 1))) (c_l_next (consA (nameM 0) (consA (binM subF (nameM 4) (constM (.int 1))) nilA)))) (nameM 4)))
  (appM 8 (tupM (consA (nameM 10) (consA (nameM 11) (consA (binM addF (constM (.int 1)) (c_l_next (consA (nameM 0) (consA (nameM 5) nilA)))) (consA (binM addF (constM (.int 1)) (c_l_next (consA (nameM 0) (consA (nameM 6) nilA)))) nilA)))))))))
  (retM (tupM (consA (nameM 7) (consA (callM tupleF (consA (nameM 8) nilA)) nilA))))))))))
abbrev c_l_book {C : Cn Rng} (ts : AM C) : EM C := callW 3 [] p_l_book ts

theorem r_l_book {C : Cn Rng} (ds : List D) (r : Rng) (Kp : D → Rng → Prop) (hl : ds.length = 3) (hp : p_l_book ds r Kp) : m_l_book C ⟨fun _ r' => Kp .non r', fun d r' => Kp d r', fun _ _ => False, fun _ _ => False⟩ (startG 12 [false] (.ref C.hdl :: ds)) r := by
  obtain ⟨hs, cs, wd, rfl, hs0, hs1, cs0, cs1, wd0, wd1, hk⟩ := hp
  have tw : top wd ≤ 999 ∧ 1 ≤ top wd := by unfold top; omega
  refine ⟨_, _, rfl, rfl, rfl, draw (by omega) (by omega) fun v1 r1 v10 v11 => ⟨rfl, ?_⟩⟩
  generalize hn : (1 : Int) + v1 = n
  refine ⟨(by show 3 ≤ 1000; decide), rfl, _, _, rfl, rfl, rfl, draw (by decide) (by decide) fun v2 r2 v20 v21 => ?_⟩
  obtain ⟨mo, hmo, mo0, mo1⟩ := wide_of v20 v21 wd0
  refine ⟨_, hmo, rfl, ?_⟩
  refine ⟨(by show 3 ≤ 1000; decide), rfl, _, _, rfl, rfl, rfl, draw (by decide) (by decide) fun v3 r3 v30 v31 => ?_⟩
  obtain ⟨rk, hrk, rk0, rk1⟩ := rank_of v30 v31
  refine ⟨_, hrk, rfl, ?_⟩
  refine ⟨_, _, rfl, by omega, by omega, rfl, ?_⟩
  refine lc_ints (fun x => 0 ≤ x ∧ x ≤ top wd) (by rw [rng_len]; omega) (fun d hd w N hN => ?_) fun cash w1 hcl hcp => ?_
  · refine ⟨_, _, rfl, rfl, rfl, draw (by omega) (by omega) fun v4 r4 v40 v41 => ⟨_, _, rfl, rfl, rfl, draw (by decide) (by decide) fun v5 r5 v50 v51 => ⟨.inl (by omega), hN _ _ _ rfl ?_⟩⟩⟩
    split <;> omega
  rw [rng_len] at hcl
  refine ⟨by rw [nmL_ints]; rfl, asg_flat (flats_ints _) ⟨(by show 0 ≤ 1000; decide), rfl, rfl, rfl, ?_⟩⟩
  refine ⟨_, _, rfl, rfl, rfl, draw (by omega) (by omega) fun v6 r6 v60 v61 => ⟨.inl (by omega), _, _, rfl, ?_, ?_, rfl, ?_⟩⟩
  · split <;> omega
  · split <;> omega
  refine loop_by (fun k Γ w => ∃ (l : List Cl) (s9 s10 s11 : Sl), l.length = k ∧ (∀ x ∈ l, ClOk cash.length x ∧ x.a ≤ top wd) ∧ Γ = [.val true (.ref C.hdl), .val true (.int hs), .val true (.int cs), .val true (.int wd), .val true (.int n), .val true (.int mo), .val true (.int rk), .val true (.tup (cash.map D.int)), .own (.lst (l.map clD)), s9, s10, s11]) (fun k d Γ w N hd hI hN => ?_) (fun Γ w hI => ?_) ⟨[], .no, .no, .no, rfl, (fun _ h => by cases h), rfl⟩
  · obtain ⟨l, s9, s10, s11, hll, hcl2, rfl⟩ := hI
    obtain ⟨rfl, hk2⟩ := rng_get hd
    have hn1 : 1 < n := by
      by_cases z : 1 < n
      · exact z
      · exfalso
        rw [decide_eq_false z] at hk2
        simp at hk2
        omega
    have hk3 : (k : Int) < v6 := by
      rw [decide_eq_true hn1] at hk2
      simp at hk2
      omega
    refine ⟨_, _, rfl, rfl, rfl, draw (by omega) (by omega) fun v7 r7 v70 v71 => ⟨rfl, ?_⟩⟩
    refine ⟨_, _, rfl, rfl, rfl, draw (by omega) (by omega) fun v8 r8 v80 v81 => ⟨by omega, rfl, ?_⟩⟩
    obtain ⟨o1, o2, o3⟩ := other_house hn1 v70 v71 v80 v81
    refine ⟨_, rfl, by rw [List.length_map]; omega, _, _, rfl, rfl, rfl, draw (by omega) (by omega) fun v9 r9 v90 v91 => ⟨_, _, rfl, rfl, rfl, draw (by omega) (by omega) fun va ra va0 va1 => ⟨(by show 4 ≤ 1000; decide), rfl, rfl, rfl, hN _ _ ⟨l ++ [⟨v7, (v7 + 1 + v8) % n, 1 + v9, 1 + va⟩], .val true (.int (0 + (k : Int))), .val true (.int v7), .val true (.int ((v7 + 1 + v8) % n)), by simp; omega, fun x hx => ?_, ?_⟩⟩⟩⟩
    · rcases List.mem_append.mp hx with hx | hx
      · exact hcl2 x hx
      · rw [List.mem_singleton.mp hx]
        exact ⟨⟨v70, by show v7 < _; omega, o1, by show (v7 + 1 + v8) % n < ((cash.length : Nat) : Int); rw [show ((cash.length : Nat) : Int) = n by omega]; exact o2, o3, by show 1 ≤ 1 + v9; omega, by show 1 + v9 ≤ 999; omega, by show 1 ≤ 1 + va; omega, by show 1 + va ≤ 9; omega⟩, by show 1 + v9 ≤ _; omega⟩
    · rw [List.map_append]; rfl
  · obtain ⟨l, s9, s10, s11, hll, hcl2, rfl⟩ := hI
    rw [rng_len] at hll
    have hb : BkOk ⟨cash, l⟩ := ⟨⟨by show 1 ≤ cash.length; omega, by show cash.length ≤ 8; omega, fun x hx => by have := hcp x hx; omega, by show l.length ≤ 24; split at hll <;> omega, fun x hx => (hcl2 x hx).1⟩, fun x hx => by have := hcp x hx; omega⟩
    refine ⟨(by show 2 ≤ 1000; decide), ?_⟩
    show (jn [(_, cashD ⟨cash, l⟩), (_, clsD ⟨cash, l⟩)]).ok = true ∧ (jn [(_, cashD ⟨cash, l⟩), (_, clsD ⟨cash, l⟩)]).ok = true ∧ ((jn [(_, cashD ⟨cash, l⟩), (_, clsD ⟨cash, l⟩)]).fr || _) = true ∧ Kp (bkD ⟨cash, l⟩) _
    rw [jn_bk]
    exact ⟨rfl, rfl, rfl, hk _ _ hb (by show ((cash.length : Nat) : Int) ≤ _; omega) (by show ((l.length : Nat) : Int) ≤ _; split at hll <;> omega) (fun x hx => (hcl2 x hx).2) fun x hx => (hcp x hx).2⟩
--END l_book
/-! ### for the laws -/
theorem cut_last (l : List D) (x : D) : cutD (l ++ [x]) none (some (-1)) = l := by
  unfold cutD
  have e1 : HT.sIx (l ++ [x]).length 0 none = 0 := rfl
  have e2 : HT.sIx (l ++ [x]).length (l ++ [x]).length (some (-1)) = l.length := by
    unfold HT.sIx
    simp
    try omega
  rw [e1, e2, List.drop_zero, Nat.sub_zero, List.take_left']
  rfl
theorem slD_last {md : Md} {l : List D} {x : D} {K : Md → D → Prop} (h : K (nmL md.item l) (.lst l)) : slD (md, .lst (l ++ [x])) none (some (-1)) K := by
  unfold slD
  dsimp only
  rw [cut_last]
  exact h
theorem arePy_pairs : ∀ l : List (Int × Int), D.arePy (l.map pD) = true
  | [] => rfl
  | z :: l => by
    show ((pD z).isPy && D.arePy (l.map pD)) = true
    rw [arePy_pairs l]; rfl
theorem depths_pairs : ∀ l : List (Int × Int), D.depths (l.map pD) ≤ 1
  | [] => by show 0 ≤ 1; decide
  | z :: l => by
    show Max.max (pD z).depth (D.depths (l.map pD)) ≤ 1
    exact Nat.max_le.mpr ⟨by show 1 ≤ 1; decide, depths_pairs l⟩
theorem cmp_pairs (l : List (Int × Int)) : (D.lst (l.map pD)).cmp := ⟨by show D.arePy _ = true; exact arePy_pairs l, by show D.depths _ + 1 ≤ 64; have := depths_pairs l; omega⟩
theorem eqv_pair (x y : Int × Int) : (pD x).eqv (pD y) = decide (x = y) := by
  show ((D.int x.1).eqv (.int y.1) && ((D.int x.2).eqv (.int y.2) && true)) = _
  rw [eqv_int, eqv_int]
  obtain ⟨a, b⟩ := x
  obtain ⟨c, d⟩ := y
  by_cases h : a = c <;> by_cases h' : b = d <;> simp [h, h']
theorem eqvs_pairs : ∀ l k : List (Int × Int), PyData.eqvAll (D.pys (l.map pD)) (D.pys (k.map pD)) = decide (l = k)
  | [], [] => rfl
  | [], _ :: _ => by simp [D.pys, PyData.eqvAll]
  | _ :: _, [] => by simp [D.pys, PyData.eqvAll]
  | n :: ns, m :: ms => by
    show ((pD n).eqv (pD m) && PyData.eqvAll (D.pys (ns.map pD)) (D.pys (ms.map pD))) = _
    rw [eqv_pair, eqvs_pairs ns ms]
    by_cases h : n = m <;> by_cases h' : ns = ms <;> simp [h, h']
theorem eqv_pairs (l k : List (Int × Int)) : (D.lst (l.map pD)).eqv (.lst (k.map pD)) = decide (l = k) := eqvs_pairs l k
theorem pick_map {f : Cl → Bool} {F : Int → Int} {g : Cl → Int} : ∀ {xs : List Cl} {k : Int}, (∀ j : Nat, j < xs.length → F (k + j) = g (xs.getD j ⟨0, 0, 0, 0⟩)) → (pick f k xs).map F = (xs.filter f).map g
  | [], _, _ => rfl
  | x :: xs, k, h => by
    have h0 := h 0 (by simp)
    have ih := pick_map (f := f) (xs := xs) (k := k + 1) fun j hj => by
      have := h (j + 1) (by simpa using hj)
      rw [show k + ((j + 1 : Nat) : Int) = k + 1 + j by omega] at this
      simpa using this
    unfold pick
    by_cases hx : f x = true
    · rw [if_pos hx, List.filter_cons_of_pos hx, List.map_cons, List.map_cons, ih]
      simp at h0
      rw [h0]
    · rw [if_neg hx, List.filter_cons_of_neg hx, ih]
theorem owe_cl (b : Bk) (h : Int) : ((b.cl.filter fun x => decide (x.d = h)).map (·.a)).sum = owe b h := by
  unfold owe on
  rw [pick_map (g := (·.a)) fun j hj => by rw [Int.zero_add]; rfl]
theorem owe_hi {b : Bk} (hb : BkW b) (h : Int) : 0 ≤ owe b h ∧ owe b h ≤ 24000 := by
  have hA : Mx.Amt b (on b h) := Mx.amt_on hb fun _ z => z
  have h1 := Mx.amts_sum hA
  have h2 := sum_hi (Mx.amts b (on b h)) 999 fun i hi => (hA.hi _ (by
    unfold at'
    rw [List.getD_eq_getElem?_getD, List.getElem?_eq_getElem hi]
    exact List.getElem_mem hi)).2
  have h3 : (Mx.amts b (on b h)).length = (on b h).length := List.length_map _
  have h4 := Mx.on_len b h
  have h5 := hb.m24
  have h6 : ((Mx.amts b (on b h)).length : Int) * 999 ≤ 24 * 999 := Int.mul_le_mul_of_nonneg_right (by omega) (by decide)
  change 0 ≤ (Mx.amts b (on b h)).sum ∧ (Mx.amts b (on b h)).sum ≤ 24000
  omega
end VS

/-! ### clearings, plainly -/
namespace Mx
theorem at_inc (p : List Int) (k i : Nat) : at' p i ≤ at' (inc p k) i := by
  unfold inc
  by_cases h : k < p.length
  · rw [at_set p k i _ h]
    split
    · rename_i e; subst e; omega
    · exact Int.le_refl _
  · rw [List.set_eq_of_length_le (by omega)]; exact Int.le_refl _
theorem grow_mono (am p : List Int) : ∀ {s t : Nat}, s ≤ t → ∀ i, at' (grow am p s) i ≤ at' (grow am p t) i := by
  intro s t h
  induction t with
  | zero => intro i; rw [Nat.le_zero.mp h]; exact Int.le_refl _
  | succ t ih =>
    intro i
    by_cases e : s = t + 1
    · rw [e]; exact Int.le_refl _
    · exact Int.le_trans (ih (by omega) i) (at_inc _ _ _)
theorem sh_mono (am : List Int) {c c' : Int} (h : c ≤ c') (i : Nat) : at' (sh am c) i ≤ at' (sh am c') i := by
  unfold sh gr
  exact grow_mono am _ (by omega) i
/-- the same keys, values not above -/
def PLe : List (Int × Int) → List (Int × Int) → Prop
  | [], [] => True
  | z :: l, z' :: l' => z.1 = z'.1 ∧ z.2 ≤ z'.2 ∧ PLe l l'
  | _, _ => False
theorem PLe.append : ∀ {l l' k k' : List (Int × Int)}, PLe l l' → PLe k k' → PLe (l ++ k) (l' ++ k')
  | [], [], _, _, _, h => h
  | _ :: _, _ :: _, _, _, ⟨h1, h2, h3⟩, h => ⟨h1, h2, PLe.append h3 h⟩
  | [], _ :: _, _, _, h, _ => h.elim
  | _ :: _, [], _, _, h, _ => h.elim
theorem PLe.zip : ∀ {g p q : List Int}, p.length = g.length → q.length = g.length → (∀ i, at' p i ≤ at' q i) → PLe (g.zip p) (g.zip q)
  | [], [], [], _, _, _ => trivial
  | x :: g, y :: p, z :: q, h1, h2, h => ⟨rfl, h 0, PLe.zip (by simpa using h1) (by simpa using h2) fun i => by simpa using h (i + 1)⟩
  | [], _ :: _, _, h, _, _ => by cases h
  | [], [], _ :: _, _, h, _ => by cases h
  | _ :: _, [], _, h, _, _ => by cases h
  | _ :: _, _ :: _, [], _, h, _ => by cases h
theorem PLe.look (i : Int) : ∀ {l l' : List (Int × Int)}, PLe l l' → (l.lookup i).getD 0 ≤ (l'.lookup i).getD 0
  | [], [], _ => Int.le_refl _
  | (k, v) :: l, (k', v') :: l', ⟨h1, h2, h3⟩ => by
    have h1 : k = k' := h1
    subst h1
    rw [List.lookup_cons, List.lookup_cons]
    cases e : i == k with
    | true => exact h2
    | false => exact PLe.look i h3
  | [], _ :: _, h => h.elim
  | _ :: _, [], h => h.elim
theorem payG_mono {b : Bk} : ∀ {gs : List (List Int)} {m m' : Int}, 0 ≤ m → m ≤ m' → (∀ g ∈ gs, Amt b g) → PLe (payG b gs m) (payG b gs m')
  | [], _, _, _, _, _ => trivial
  | g :: gs, m, m', h0, h, hA => by
    have hg := hA g (by simp)
    have h0' : 0 ≤ m' := by omega
    have l1 := sh_len' hg h0
    have l2 := sh_len' hg h0'
    have s1 := sh_sum hg h0
    have s2 := sh_sum hg h0'
    refine PLe.append (PLe.zip l1 l2 (sh_mono _ h)) (payG_mono (sh_left hg h0).1 ?_ fun g' hg' => hA g' (List.mem_cons_of_mem _ hg'))
    change m - (sh (amts b g) m).sum ≤ m' - (sh (amts b g) m').sum
    omega
theorem coin_mono {b : Bk} (hb : BkW b) (h : Int) {m m' : Int} (h0 : 0 ≤ m) (hm : m ≤ m') (i : Int) : coin b h m i ≤ coin b h m' i :=
  PLe.look i (payG_mono h0 hm (amt_grps hb h))
theorem payG_in {b : Bk} : ∀ {gs : List (List Int)} {m : Int}, 0 ≤ m → (∀ g ∈ gs, Amt b g) → ∀ z ∈ payG b gs m, 0 ≤ z.2 ∧ z.2 ≤ (b.at z.1).a
  | [], _, _, _, z, hz => by cases hz
  | g :: gs, m, h0, hA, z, hz => by
    have hg := hA g (by simp)
    rcases List.mem_append.mp hz with hz | hz
    · change z ∈ g.zip (sh (amts b g) m) at hz
      obtain ⟨j, hj⟩ := List.mem_iff_getElem?.mp hz
      have hj' : (g.zip (sh (amts b g) m))[j]? = some (z.1, z.2) := hj
      rw [List.getElem?_zip_eq_some] at hj'
      obtain ⟨e1, e2⟩ := hj'
      have G := (good_sh hg.pos h0).1
      have hjl : j < (amts b g).length := by unfold amts; rw [List.length_map]; exact (List.getElem?_eq_some_iff.mp e1).1
      have a1 : at' (sh (amts b g) m) j = z.2 := by unfold at'; rw [List.getD_eq_getElem?_getD, e2]; rfl
      have a2 : at' (amts b g) j = (b.at z.1).a := by unfold at' amts; rw [List.getD_eq_getElem?_getD, List.getElem?_map, e1]; rfl
      have := G.lo j hjl
      have := G.hi j hjl
      omega
    · exact payG_in (sh_left hg h0).1 (fun g' hg' => hA g' (List.mem_cons_of_mem _ hg')) z hz
theorem coin_in {b : Bk} (hb : BkW b) (h : Int) {m : Int} (h0 : 0 ≤ m) {i : Int} (hi : i ∈ on b h) : 0 ≤ coin b h m i ∧ coin b h m i ≤ (b.at i).a := by
  have : i ∈ (payP b h m).map (·.1) := (payP_keys hb h h0).mem_iff.mpr hi
  obtain ⟨z, hz, rfl⟩ := List.mem_map.mp this
  have e : coin b h m z.1 = z.2 := by unfold coin; rw [lookup_in (payP_nodup hb h h0) hz]; rfl
  rw [e]
  exact payG_in h0 (amt_grps hb h) z hz
/-! ### payments -/
def ofc (b : Bk) (h : Int) : List Int := pick (fun x => decide (x.c = h)) 0 b.cl
theorem ofc_mem {b : Bk} {h i : Int} : i ∈ ofc b h ↔ 0 ≤ i ∧ i < b.m ∧ (b.at i).c = h := by
  unfold ofc
  rw [pick_mem]
  simp [Bk.m, Bk.at]
structure POk (b : Bk) (P : List Int) : Prop where
  len : P.length = b.m
  lo : ∀ i : Nat, i < b.m → 0 ≤ at' P i
  hi : ∀ i : Nat, i < b.m → at' P i ≤ (b.at i).a
def sumAt (P : List Int) (l : List Int) : Int := (l.map fun i => at' P i.toNat).sum
def mean (b : Bk) (h : Int) (P : List Int) : Int := at' b.cash h.toNat + sumAt P (ofc b h)
def lft (b : Bk) (P : List Int) : List Int := (List.range b.n).map fun (h : Nat) => mean b h P - sumAt P (on b h)
/-- one step: what the houses hs pay with the means that P gives them -/
def T (b : Bk) (hs P : List Int) : List Int := (List.range b.m).map fun (i : Nat) => if (b.at i).d ∈ hs then coin b (b.at i).d (mean b (b.at i).d P) i else at' P i
def Le (P Q : List Int) : Prop := ∀ i : Nat, at' P i ≤ at' Q i
theorem T_len (b : Bk) (hs P : List Int) : (T b hs P).length = b.m := by unfold T; simp
theorem T_at {b : Bk} {hs P : List Int} {i : Nat} (h : i < b.m) : at' (T b hs P) i = if (b.at i).d ∈ hs then coin b (b.at i).d (mean b (b.at i).d P) i else at' P i := by
  unfold T at'
  rw [List.getD_eq_getElem?_getD, List.getElem?_map, List.getElem?_range h]; rfl
theorem at_out {P : List Int} {i : Nat} (h : P.length ≤ i) : at' P i = 0 := by
  unfold at'; rw [List.getD_eq_getElem?_getD, List.getElem?_eq_none h]; rfl
theorem sumAt_mono {P Q : List Int} (h : Le P Q) : ∀ l : List Int, sumAt P l ≤ sumAt Q l
  | [] => Int.le_refl _
  | x :: l => by
    have := sumAt_mono h l
    have := h x.toNat
    unfold sumAt at *
    simp only [List.map_cons, List.sum_cons]
    omega
theorem sumAt_nn {P : List Int} (h : ∀ i, 0 ≤ at' P i) : ∀ l : List Int, 0 ≤ sumAt P l
  | [] => Int.le_refl _
  | x :: l => by
    have := sumAt_nn h l
    have := h x.toNat
    unfold sumAt at *
    simp only [List.map_cons, List.sum_cons]
    omega
theorem POk.nn {b : Bk} {P : List Int} (h : POk b P) (i : Nat) : 0 ≤ at' P i := by
  by_cases hi : i < b.m
  · exact h.lo i hi
  · rw [at_out (by rw [h.len]; omega)]; exact Int.le_refl _
theorem cash_at {b : Bk} (hb : BkW b) (h : Int) : 0 ≤ at' b.cash h.toNat ∧ at' b.cash h.toNat ≤ 100000 := by
  by_cases hi : h.toNat < b.cash.length
  · have : at' b.cash h.toNat ∈ b.cash := by
      unfold at'
      rw [List.getD_eq_getElem?_getD, List.getElem?_eq_getElem hi]
      exact List.getElem_mem hi
    exact hb.cash _ this
  · rw [at_out (by omega)]; omega
theorem mean_nn {b : Bk} (hb : BkW b) (h : Int) {P : List Int} (hP : ∀ i, 0 ≤ at' P i) : 0 ≤ mean b h P := by
  have := (cash_at hb h).1
  have := sumAt_nn hP (ofc b h)
  unfold mean; omega
theorem mean_mono {b : Bk} (h : Int) {P Q : List Int} (hPQ : Le P Q) : mean b h P ≤ mean b h Q := by
  have := sumAt_mono hPQ (ofc b h)
  unfold mean; omega
theorem T_ok {b : Bk} (hb : BkW b) (hs : List Int) {P : List Int} (hP : POk b P) : POk b (T b hs P) := by
  refine ⟨T_len b hs P, fun i hi => ?_, fun i hi => ?_⟩ <;> rw [T_at hi] <;> split
  · exact (coin_in hb _ (mean_nn hb _ hP.nn) (on_mem.mpr ⟨by omega, by omega, rfl⟩)).1
  · exact hP.lo i hi
  · exact (coin_in hb _ (mean_nn hb _ hP.nn) (on_mem.mpr ⟨by omega, by omega, rfl⟩)).2
  · exact hP.hi i hi
theorem T_mono {b : Bk} (hb : BkW b) (hs : List Int) {P Q : List Int} (hP : POk b P) (h : Le P Q) : Le (T b hs P) (T b hs Q) := fun i => by
  by_cases hi : i < b.m
  · rw [T_at hi, T_at hi]
    split
    · exact coin_mono hb _ (mean_nn hb _ hP.nn) (mean_mono _ h) _
    · exact h i
  · rw [at_out (by rw [T_len]; omega), at_out (by rw [T_len]; omega)]; exact Int.le_refl _
def it (b : Bk) (hs P : List Int) : Nat → List Int
  | 0 => P
  | n + 1 => T b hs (it b hs P n)
theorem it_ok {b : Bk} (hb : BkW b) (hs : List Int) {P : List Int} (hP : POk b P) : ∀ n, POk b (it b hs P n)
  | 0 => hP
  | n + 1 => T_ok hb hs (it_ok hb hs hP n)
theorem it_up {b : Bk} (hb : BkW b) {hs P : List Int} (hP : POk b P) (h : Le P (T b hs P)) : ∀ n, Le (it b hs P n) (it b hs P (n + 1))
  | 0 => h
  | n + 1 => T_mono hb hs (it_ok hb hs hP n) (it_up hb hP h n)
theorem it_dn {b : Bk} (hb : BkW b) {hs P : List Int} (hP : POk b P) (h : Le (T b hs P) P) : ∀ n, Le (it b hs P (n + 1)) (it b hs P n)
  | 0 => h
  | n + 1 => T_mono hb hs (it_ok hb hs hP (n + 1)) (it_dn hb hP h n)
theorem le_eq {b : Bk} {P Q : List Int} (hP : POk b P) (hQ : POk b Q) (h : Le P Q) (hs : Q.sum ≤ P.sum) : P = Q := by
  have l : P.length = Q.length := by rw [hP.len, hQ.len]
  have := sum_le P Q l fun i _ => h i
  exact eq_of_le P Q l (fun i _ => h i) (by omega)
theorem sum_in {b : Bk} (hb : BkW b) {P : List Int} (hP : POk b P) : 0 ≤ P.sum ∧ P.sum ≤ 23976 := by
  have h0 : 0 ≤ P.sum := sum_nn fun x hx => by
    obtain ⟨i, hi, rfl⟩ := List.getElem_of_mem hx
    have := hP.nn i
    unfold at' at this
    rw [List.getD_eq_getElem?_getD, List.getElem?_eq_getElem hi] at this
    exact this
  refine ⟨h0, ?_⟩
  have h1 : P.sum ≤ (List.replicate P.length (999 : Int)).sum := sum_le P _ (by simp) fun i hi => by
    have h2 := hP.hi i (by rw [← hP.len]; exact hi)
    obtain ⟨_, _, _, _, _, _, c7, _⟩ := hb.at (i := (i : Int)) (by omega) (by have := hP.len; omega)
    have e : at' (List.replicate P.length (999 : Int)) i = 999 := by unfold at'; rw [List.getD_eq_getElem?_getD, List.getElem?_replicate, if_pos hi]; rfl
    rw [e]; omega
  have e : (List.replicate P.length (999 : Int)).sum = P.length * 999 := by
    induction P.length with
    | zero => rfl
    | succ n ih => rw [List.replicate_succ, List.sum_cons, ih]; omega
  have h3 := hP.len
  have h4 := hb.m24
  rw [e] at h1
  have : (P.length : Int) * 999 ≤ 24 * 999 := Int.mul_le_mul_of_nonneg_right (by omega) (by decide)
  omega
/-- steps go on one way alone -/
def Way (b : Bk) (hs P : List Int) : Prop := Le P (T b hs P) ∨ Le (T b hs P) P
theorem still {b : Bk} {hs P : List Int} {n : Nat} (h : it b hs P (n + 1) = it b hs P n) : ∀ k, it b hs P (n + k) = it b hs P n
  | 0 => rfl
  | k + 1 => by
    show T b hs (it b hs P (n + k)) = _
    rw [still h k]; exact h
/-- while it moves, few steps were made -/
theorem few {b : Bk} (hb : BkW b) {hs P : List Int} (hP : POk b P) (hw : Way b hs P) : ∀ {n : Nat}, it b hs P (n + 1) ≠ it b hs P n → n < 23976 := by
  intro n hne
  have moves : ∀ k, k ≤ n → it b hs P (k + 1) ≠ it b hs P k := fun k hk e => by
    have h1 := still e (n - k)
    have h2 := still e (n + 1 - k)
    rw [show k + (n - k) = n by omega] at h1
    rw [show k + (n + 1 - k) = n + 1 by omega] at h2
    exact hne (h2.trans h1.symm)
  rcases hw with h | h
  · have : ∀ k, k ≤ n + 1 → (k : Int) ≤ (it b hs P k).sum := by
      intro k
      induction k with
      | zero => intro _; exact (sum_in hb hP).1
      | succ k ih =>
        intro hk
        have h1 := ih (by omega)
        have h2 : (it b hs P k).sum < (it b hs P (k + 1)).sum := Int.not_le.mp fun z => moves k (by omega) (le_eq (it_ok hb hs hP k) (it_ok hb hs hP (k + 1)) (it_up hb hP h k) z).symm
        omega
    have h1 := this (n + 1) (Nat.le_refl _)
    have h2 := (sum_in hb (it_ok hb hs hP (n + 1))).2
    omega
  · have : ∀ k, k ≤ n + 1 → (it b hs P k).sum ≤ 23976 - (k : Int) := by
      intro k
      induction k with
      | zero => intro _; have := (sum_in hb hP).2; show P.sum ≤ _; omega
      | succ k ih =>
        intro hk
        have h1 := ih (by omega)
        have h2 : (it b hs P (k + 1)).sum < (it b hs P k).sum := Int.not_le.mp fun z => moves k (by omega) (le_eq (it_ok hb hs hP (k + 1)) (it_ok hb hs hP k) (it_dn hb hP h k) z)
        omega
    have h1 := this (n + 1) (Nat.le_refl _)
    have h2 := (sum_in hb (it_ok hb hs hP (n + 1))).1
    omega
/-- where the steps end -/
def lim (b : Bk) (hs P : List Int) : List Int := it b hs P 24000
theorem lim_fix {b : Bk} (hb : BkW b) {hs P : List Int} (hP : POk b P) (hw : Way b hs P) : T b hs (lim b hs P) = lim b hs P := by
  by_cases e : it b hs P (24000 + 1) = it b hs P 24000
  · exact e
  · have := few hb hP hw e; omega
theorem lim_of {b : Bk} {hs P : List Int} {n : Nat} (hn : n ≤ 24000) (h : it b hs P (n + 1) = it b hs P n) : it b hs P n = lim b hs P := by
  have := still h (24000 - n)
  rw [show n + (24000 - n) = 24000 by omega] at this
  exact this.symm
theorem lim_ok {b : Bk} (hb : BkW b) (hs : List Int) {P : List Int} (hP : POk b P) : POk b (lim b hs P) := it_ok hb hs hP _
/-- all paid, nothing paid -/
def fullP (b : Bk) : List Int := b.cl.map (·.a)
def zeroP (b : Bk) : List Int := zeros b.m
def allH (b : Bk) : List Int := (List.range b.n).map fun (k : Nat) => (k : Int)
theorem full_at {b : Bk} {i : Nat} (h : i < b.m) : at' (fullP b) i = (b.at i).a := by
  have h' : i < b.cl.length := h
  unfold at' fullP Bk.at
  rw [List.getD_eq_getElem?_getD, List.getElem?_map, Int.toNat_natCast, List.getD_eq_getElem?_getD, List.getElem?_eq_getElem h']; rfl
theorem full_ok {b : Bk} (hb : BkW b) : POk b (fullP b) := ⟨by unfold fullP Bk.m; simp, fun i hi => by
  rw [full_at hi]
  obtain ⟨_, _, _, _, _, c6, _⟩ := hb.at (i := (i : Int)) (by omega) (by omega)
  omega, fun i hi => by rw [full_at hi]; exact Int.le_refl _⟩
theorem zero_ok {b : Bk} (hb : BkW b) : POk b (zeroP b) := ⟨by unfold zeroP zeros; simp, fun i hi => by unfold zeroP; rw [at_zeros]; exact Int.le_refl _, fun i hi => by
  unfold zeroP; rw [at_zeros]
  obtain ⟨_, _, _, _, _, c6, _⟩ := hb.at (i := (i : Int)) (by omega) (by omega)
  omega⟩
theorem le_full {b : Bk} {P : List Int} (hP : POk b P) : Le P (fullP b) := fun i => by
  by_cases hi : i < b.m
  · rw [full_at hi]; exact hP.hi i hi
  · rw [at_out (by rw [hP.len]; omega), at_out (by unfold fullP Bk.m at *; simp; omega)]; exact Int.le_refl _
theorem zero_le {b : Bk} {P : List Int} (hP : POk b P) : Le (zeroP b) P := fun i => by unfold zeroP; rw [at_zeros]; exact hP.nn i
theorem full_way {b : Bk} (hb : BkW b) (hs : List Int) : Way b hs (fullP b) := .inr (le_full (T_ok hb hs (full_ok hb)))
theorem zero_way {b : Bk} (hb : BkW b) (hs : List Int) : Way b hs (zeroP b) := .inl (zero_le (T_ok hb hs (zero_ok hb)))
def bst (b : Bk) : List Int := lim b (allH b) (fullP b)
def wst (b : Bk) : List Int := lim b (allH b) (zeroP b)
end Mx

namespace VS
open PySem PySem.Spec PyProof.Rows L2
open Mx (Cl Bk BkOk BkW ClOk on owe grp payG payP ranks9 pick at' sh coin ofc POk sumAt mean lft T Le it Way lim fullP zeroP allH bst wst)
/-! ### clearings read -/
def p_claims_of : PD := fun ds K => ∃ (b : Bk) (h : Int), ds = [bkD b, .int h] ∧ b.m ≤ 1000 ∧ K (.lst ((ofc b h).map D.int))
/-! claims_of -/
def m_claims_of {ω : Type} (C : Cn ω) : SM C :=
  (retM (lcM (.tp [2, 3]) (iterEnT (consA (binM ixF (nameM 0) (constM (.int 1))) nilA)) (testM (binM eqF (binM ixF (nameM 3) (constM (.int 1))) (nameM 1))) (nameM 2) [2, 3]))
abbrev c_claims_of {ω : Type} {C : Cn ω} (ts : AM C) : EM C := callD 2 [] p_claims_of ts

theorem r_claims_of {ω : Type} {C : Cn ω} (ds : List D) (Kp : D → Prop) (hl : ds.length = 2) (hp : p_claims_of ds Kp) (w : ω) : m_claims_of C ⟨fun _ _ => Kp .non, fun d _ => Kp d, fun _ _ => False, fun _ _ => False⟩ (startG 4 [] ds) w := by
  obtain ⟨b, h, rfl, hm, hk⟩ := hp
  rw [st_bk]
  have lm : (b.cl.map clD).length = b.m := List.length_map _
  refine ⟨_, rfl, _, _, rfl, rfl, ?_⟩
  refine lc_by (fun k w m acc => k ≤ b.m ∧ m = .F ∧ ∃ l : List Int, acc = l.map D.int ∧ l.length ≤ k ∧ l ++ pick (fun x => decide (x.c = h)) (k : Int) (b.cl.drop k) = ofc b h) (fun k d w m acc N hd hI hN => ?_) (fun w m acc hI => ?_) ⟨Nat.zero_le _, rfl, [], rfl, Nat.zero_le _, rfl⟩
  · obtain ⟨hkm, rfl, l, rfl, hll, he⟩ := hI
    obtain ⟨e, he2, rfl⟩ := en_get hd
    obtain ⟨rfl, hkm⟩ := cl_get he2
    rw [pick_step hkm] at he
    refine asg_tp2 rfl rfl ⟨_, rfl, cmp_int _, cmp_int _, _, rfl, ?_⟩
    rw [eqv_int]
    refine ite2 (fun q => ?_) (fun q => ?_)
    · rw [if_pos (by simpa using q)] at he
      exact ⟨rfl, by rw [List.length_map]; omega, hN _ _ _ ⟨hkm, rfl, l ++ [(k : Int)], by rw [List.map_append]; rfl, by rw [List.length_append]; simp; omega, by rw [List.append_assoc]; exact he⟩⟩
    · rw [if_neg (by simpa using q)] at he
      exact hN _ _ _ ⟨hkm, rfl, l, rfl, by omega, he⟩
  · obtain ⟨_, rfl, l, rfl, _, he⟩ := hI
    rw [enD_length, lm] at he
    have e0 : b.cl.drop b.m = [] := List.drop_eq_nil_of_le (Nat.le_refl _)
    rw [e0] at he
    have : l = ofc b h := by rw [← he]; show l = l ++ []; simp
    rw [this]
    exact ⟨rfl, rfl, hk⟩
--END claims_of
theorem at_nat {P : List Int} {i : Int} (h0 : 0 ≤ i) (h1 : i < P.length) : atI (P.map D.int) i = some (.int (at' P i.toNat)) := at_ints h0 h1
def p_need_payments : PD := fun ds K => ∃ (b : Bk) (P : List Int), ds = [bkD b, .lst (P.map D.int)] ∧ BkOk b ∧ POk b P ∧ K .non
/-! need_payments -/
def m_need_payments {ω : Type} (C : Cn ω) : SM C :=
  (seqM (ifM (testM (binM neF (callM lenF (consA (nameM 1) nilA)) (callM lenF (consA (binM ixF (nameM 0) (constM (.int 1))) nilA)))) nvM nextM)
  (forM (.tp [2, 3]) (iterEnL (consA (nameM 1) nilA)) (ifM (notM (testM (chainM leF leF (constM (.int 0)) (nameM 3) (binM ixF (binM ixF (binM ixF (nameM 0) (constM (.int 1))) (nameM 2)) (constM (.int 2)))))) nvM nextM)))
abbrev c_need_payments {ω : Type} {C : Cn ω} (ts : AM C) : EM C := callD 2 [] p_need_payments ts

theorem r_need_payments {ω : Type} {C : Cn ω} (ds : List D) (Kp : D → Prop) (hl : ds.length = 2) (hp : p_need_payments ds Kp) (w : ω) : m_need_payments C ⟨fun _ _ => Kp .non, fun d _ => Kp d, fun _ _ => False, fun _ _ => False⟩ (startG 4 [] ds) w := by
  obtain ⟨b, P, rfl, hb, hP, hk⟩ := hp
  rw [st_bk]
  have lm : (b.cl.map clD).length = b.m := List.length_map _
  have lp := hP.len
  refine ⟨_, rfl, cmp_int _, cmp_int _, _, rfl, ?_⟩
  rw [eqv_len, List.length_map, lm, lp]
  refine iteNt rfl ⟨_, _, rfl, rfl, ?_⟩
  refine loop_by (fun k Γ w => ∃ s2 s3, Γ = [.val true (bkD b), .val false (.lst (P.map D.int)), s2, s3]) (fun k d Γ w N hd hI hN => ?_) (fun Γ w hI => hk) ⟨_, _, rfl⟩
  obtain ⟨s2, s3, rfl⟩ := hI
  obtain ⟨e, he, rfl⟩ := en_get hd
  obtain ⟨x, hx, rfl⟩ := get_ints he
  have hkl : k < P.length := (List.getElem?_eq_some_iff.mp hx).1
  have ex : x = at' P k := by unfold at'; rw [List.getD_eq_getElem?_getD, hx]; rfl
  have l0 := hP.lo k (by omega)
  have l1 := hP.hi k (by omega)
  exact asg_tp2 rfl rfl ⟨_, rfl, iteP (show (0 : Int) ≤ x by omega) ⟨_, rfl, _, at_cl (by omega) (by omega), _, rfl, _, rfl, iteNt (show x ≤ _ by omega) (hN _ _ ⟨_, _, rfl⟩)⟩⟩
--END need_payments
def payAt (P : List Int) : D → D | .int i => .int (at' P i.toNat) | d => d
theorem cash_ix {b : Bk} {h : Int} (h0 : 0 ≤ h) (h1 : h < b.n) : atI (b.cash.map D.int) h = some (.int (at' b.cash h.toNat)) := at_ints h0 h1
def p_means_of : PD := fun ds K => ∃ (b : Bk) (h : Int) (P : List Int), ds = [bkD b, .int h, .lst (P.map D.int)] ∧ BkW b ∧ 0 ≤ h ∧ h < b.n ∧ P.length = b.m ∧ K (.int (mean b h P))
/-! means_of -/
def m_means_of {ω : Type} (C : Cn ω) : SM C :=
  (retM (binM addF (binM ixF (binM ixF (nameM 0) (constM (.int 0))) (nameM 1)) (callM sumF (consA (lcM (.nm 3) (iterL (c_claims_of (consA (nameM 0) (consA (nameM 1) nilA)))) yesM (binM ixF (nameM 2) (nameM 3)) [3]) nilA))))
abbrev c_means_of {ω : Type} {C : Cn ω} (ts : AM C) : EM C := callD 3 [] p_means_of ts

theorem r_means_of {ω : Type} {C : Cn ω} (ds : List D) (Kp : D → Prop) (hl : ds.length = 3) (hp : p_means_of ds Kp) (w : ω) : m_means_of C ⟨fun _ _ => Kp .non, fun d _ => Kp d, fun _ _ => False, fun _ _ => False⟩ (startG 4 [] ds) w := by
  obtain ⟨b, h, P, rfl, hb, h0, h1, hP, hk⟩ := hp
  rw [st_bk]
  have hm := hb.m24
  have hol : (ofc b h).length ≤ b.m := Mx.pick_len
  refine ⟨_, rfl, _, cash_ix h0 h1, rfl, rfl, b, h, rfl, by omega, _, rfl, rfl, ?_⟩
  refine lc_map (payAt P) (fun d hd => ?_) (by rw [List.length_map]; omega) (fun d hd N hN => ?_) ?_
  · obtain ⟨i, hi, rfl⟩ := mem_ints hd; rfl
  · obtain ⟨i, hi, rfl⟩ := mem_ints hd
    obtain ⟨g0, g1, _⟩ := Mx.ofc_mem.mp hi
    exact ⟨_, at_nat g0 (by omega), hN _ rfl⟩
  · rw [ints_map (fun i => at' P i.toNat) _ _ fun i => rfl]
    exact ⟨_, _, rfl, rfl, rfl, hk⟩
--END means_of
def p_all_left : PD := fun ds K => ∃ (b : Bk) (P : List Int), ds = [bkD b, .lst (P.map D.int)] ∧ BkW b ∧ P.length = b.m ∧ K (.lst ((lft b P).map D.int))
theorem rng_all (b : Bk) : rngD 0 (((b.cash.map D.int).length : Nat) : Int) = (allH b).map D.int := by rw [List.length_map, rng_nat]; rfl
/-! all_left -/
def m_all_left {ω : Type} (C : Cn ω) : SM C :=
  (seqM (ownM 2 (lstM nilA))
  (seqM (forM (.nm 3) (iterR1 (consA (callM lenF (consA (binM ixF (nameM 0) (constM (.int 0))) nilA)) nilA)) (seqM (asgM (.nm 4) (callM sumF (consA (lcM (.nm 5) (iterL (c_claims_on (consA (nameM 0) (consA (nameM 3) nilA)))) yesM (binM ixF (nameM 1) (nameM 5)) [5]) nilA)))
  (appM 2 (binM subF (c_means_of (consA (nameM 0) (consA (nameM 3) (consA (nameM 1) nilA)))) (nameM 4)))))
  (frzM 2 (retM (nameM 2)))))
abbrev c_all_left {ω : Type} {C : Cn ω} (ts : AM C) : EM C := callD 2 [] p_all_left ts

theorem r_all_left {ω : Type} {C : Cn ω} (ds : List D) (Kp : D → Prop) (hl : ds.length = 2) (hp : p_all_left ds Kp) (w : ω) : m_all_left C ⟨fun _ _ => Kp .non, fun d _ => Kp d, fun _ _ => False, fun _ _ => False⟩ (startG 6 [] ds) w := by
  obtain ⟨b, P, rfl, hb, hP, hk⟩ := hp
  rw [st_bk]
  have hm := hb.m24
  have hn := hb.n8
  have ln : (b.cash.map D.int).length = b.n := List.length_map _
  refine ⟨(by show 0 ≤ 1000; decide), rfl, rfl, rfl, ?_⟩
  refine ⟨_, rfl, _, _, rfl, by rw [ln]; omega, by rw [ln]; omega, rfl, ?_⟩
  refine loop_by (fun k Γ w => k ≤ b.n ∧ ∃ s3 s4, Γ = [.val true (bkD b), .val false (.lst (P.map D.int)), .own (.lst (((lft b P).take k).map D.int)), s3, s4, .no]) (fun k d Γ w N hd hI hN => ?_) (fun Γ w hI => ?_) ⟨Nat.zero_le _, _, _, rfl⟩
  · obtain ⟨hk1, s3, s4, rfl⟩ := hI
    obtain ⟨rfl, hk2⟩ := rng_get hd
    rw [ln] at hk2
    have hkn : k < b.n := by omega
    have hol := Mx.on_len b (0 + (k : Int))
    refine ⟨rfl, rfl, b, 0 + (k : Int), rfl, by omega, _, rfl, rfl, ?_⟩
    refine lc_map (payAt P) (fun d hd => ?_) (by rw [List.length_map]; omega) (fun d hd N hN => ?_) ?_
    · obtain ⟨i, hi, rfl⟩ := mem_ints hd; rfl
    · obtain ⟨i, hi, rfl⟩ := mem_ints hd
      obtain ⟨g0, g1, _⟩ := Mx.on_mem.mp hi
      exact ⟨_, at_nat g0 (by omega), hN _ rfl⟩
    rw [ints_map (fun i => at' P i.toNat) _ _ fun i => rfl]
    refine ⟨_, _, rfl, rfl, ?_⟩
    have ll : (lft b P).length = b.n := by unfold Mx.lft; simp
    refine ⟨_, rfl, by rw [List.length_map, List.length_take]; omega, rfl, rfl, b, 0 + (k : Int), P, rfl, hb, by omega, by omega, hP, rfl, rfl, hN _ _ ⟨by omega, .val true (.int (0 + (k : Int))), .val true (.int (sumAt P (on b (0 + (k : Int))))), ?_⟩⟩
    have e : (lft b P)[k]? = some (mean b (0 + (k : Int)) P - sumAt P (on b (0 + (k : Int)))) := by
      unfold Mx.lft
      rw [List.getElem?_map, List.getElem?_range hkn, Int.zero_add]; rfl
    rw [List.take_add_one, e, List.map_append]
    rfl
  · obtain ⟨_, s3, s4, rfl⟩ := hI
    have ll : (lft b P).length = b.n := by unfold Mx.lft; simp
    rw [rng_len, ln, show (((b.n : Nat) : Int) - 0).toNat = (lft b P).length by omega, List.take_length]
    exact ⟨rfl, rfl, hk⟩
--END all_left
def p_left : PD := fun ds K => ∃ (b : Bk) (P : List Int), ds = [bkD b, .lst (P.map D.int)] ∧ BkOk b ∧ POk b P ∧ K (.lst ((lft b P).map D.int))
/-! left -/
def m_left {ω : Type} (C : Cn ω) : SM C :=
  (seqM (dropM (c_need_book (consA (nameM 0) nilA)))
  (seqM (dropM (c_need_payments (consA (nameM 0) (consA (nameM 1) nilA))))
  (retM (c_all_left (consA (nameM 0) (consA (nameM 1) nilA))))))
abbrev c_left {ω : Type} {C : Cn ω} (ts : AM C) : EM C := callD 2 [] p_left ts

theorem r_left {ω : Type} {C : Cn ω} (ds : List D) (Kp : D → Prop) (hl : ds.length = 2) (hp : p_left ds Kp) (w : ω) : m_left C ⟨fun _ _ => Kp .non, fun d _ => Kp d, fun _ _ => False, fun _ _ => False⟩ (startG 2 [] ds) w := by
  obtain ⟨b, P, rfl, hb, hP, hk⟩ := hp
  rw [st_bk]
  exact ⟨rfl, rfl, b, rfl, hb, rfl, rfl, b, P, rfl, hb, hP, rfl, rfl, b, P, rfl, hb, hP.len, rfl, rfl, hk⟩
--END left
/-! ### one step, and all -/
theorem it_pairs : ∀ l : List (Int × Int), itD (l.map (·.1)) (l.map fun z => .int z.2) = l.map pD
  | [] => rfl
  | z :: l => by
    show _ :: itD (l.map (·.1)) (l.map fun z => .int z.2) = _
    rw [it_pairs l]; rfl
def upds (Q : List Int) : List (Int × Int) → List Int
  | [] => Q
  | z :: l => upds (Q.set z.1.toNat z.2) l
theorem upds_len : ∀ (l : List (Int × Int)) (Q : List Int), (upds Q l).length = Q.length
  | [], _ => rfl
  | z :: l, Q => by show (upds (Q.set z.1.toNat z.2) l).length = _; rw [upds_len l]; simp
theorem upds_snoc (z : Int × Int) : ∀ (l : List (Int × Int)) (Q : List Int), upds Q (l ++ [z]) = (upds Q l).set z.1.toNat z.2
  | [], _ => rfl
  | y :: l, Q => upds_snoc z l _
theorem lookup_none : ∀ {l : List (Int × Int)} {i : Int}, i ∉ l.map (·.1) → l.lookup i = none
  | [], _, _ => rfl
  | (k, v) :: l, i, h => by
    rw [List.lookup_cons, show (i == k) = false by simpa using fun e => h (by rw [e]; simp)]
    exact lookup_none fun z => h (List.mem_cons_of_mem _ z)
theorem upds_at : ∀ (l : List (Int × Int)) (Q : List Int) (i : Nat), (l.map (·.1)).Nodup → (∀ z ∈ l, 0 ≤ z.1 ∧ z.1 < Q.length) → at' (upds Q l) i = (l.lookup (i : Int)).getD (at' Q i)
  | [], _, _, _, _ => rfl
  | (k, v) :: l, Q, i, hn, hk => by
    obtain ⟨n1, n2⟩ := List.nodup_cons.mp hn
    obtain ⟨k0, k1⟩ := hk (k, v) (by simp)
    have ih := upds_at l (Q.set k.toNat v) i n2 fun z hz => by rw [List.length_set]; exact hk z (List.mem_cons_of_mem _ hz)
    show at' (upds (Q.set k.toNat v) l) i = _
    rw [ih, List.lookup_cons, Mx.at_set Q k.toNat i v (by show k.toNat < Q.length; have k1 : k < Q.length := k1; omega)]
    by_cases e : (i : Int) = k
    · rw [show ((i : Int) == k) = true by simpa using e, if_pos (by omega), lookup_none (by rw [e]; exact n1)]; rfl
    · have k0 : 0 ≤ k := k0
      rw [show ((i : Int) == k) = false by simpa using e, if_neg (by omega)]
theorem step_house {b : Bk} (hb : BkW b) {P hs : List Int} (hP : POk b P) {h : Int} (h0 : 0 ≤ h) : upds (T b hs P) (payP b h (mean b h P)) = T b (hs ++ [h]) P := by
  have m0 := Mx.mean_nn hb h hP.nn
  have hk : ∀ z ∈ payP b h (mean b h P), z.1 ∈ on b h := fun z hz => (Mx.payP_keys hb h m0).mem_iff.mp (List.mem_map.mpr ⟨z, hz, rfl⟩)
  refine Mx.ext_at _ _ (by rw [upds_len, Mx.T_len, Mx.T_len]) fun i hi => ?_
  rw [upds_len, Mx.T_len] at hi
  rw [upds_at _ _ _ (Mx.payP_nodup hb h m0) fun z hz => by
    obtain ⟨g0, g1, _⟩ := Mx.on_mem.mp (hk z hz)
    rw [Mx.T_len]; exact ⟨g0, g1⟩]
  rw [Mx.T_at hi, Mx.T_at hi]
  by_cases e : (b.at (i : Int)).d = h
  · have hon : (i : Int) ∈ on b h := Mx.on_mem.mpr ⟨by omega, by omega, e⟩
    rw [e, Mx.coin_of hb h m0 hon]
    show coin b h (mean b h P) (i : Int) = (if h ∈ hs ++ [h] then _ else _)
    rw [if_pos (List.mem_append_right _ (List.mem_singleton.mpr rfl))]
  · have hno : (i : Int) ∉ on b h := fun z => e (Mx.on_mem.mp z).2.2
    rw [lookup_none fun z => hno ((Mx.payP_keys hb h m0).mem_iff.mp z)]
    show (if _ then _ else _) = _
    by_cases q : (b.at (i : Int)).d ∈ hs
    · rw [if_pos q, if_pos (List.mem_append_left _ q)]
    · rw [if_neg q, if_neg fun z => (List.mem_append.mp z).elim q fun z => e (List.mem_singleton.mp z)]
theorem T_nil (b : Bk) {P : List Int} (hP : P.length = b.m) : T b [] P = P := by
  refine Mx.ext_at _ _ (by rw [Mx.T_len, hP]) fun i hi => ?_
  rw [Mx.T_len] at hi
  rw [Mx.T_at hi, if_neg (by simp)]
theorem mean_hi {b : Bk} (hb : BkW b) (h : Int) {P : List Int} (hP : POk b P) : mean b h P ≤ 1000000 := by
  have h1 := (Mx.cash_at hb h).2
  have h2 : ∀ l : List Int, sumAt P l ≤ l.length * 999 := fun l => by
    induction l with
    | nil => exact Int.le_refl _
    | cons x l ih =>
      have h3 : at' P x.toNat ≤ 999 := by
        by_cases hi : x.toNat < b.m
        · have := hP.hi _ hi
          obtain ⟨_, _, _, _, _, _, c7, _⟩ := hb.at (i := ((x.toNat : Nat) : Int)) (by omega) (by omega)
          omega
        · rw [Mx.at_out (by rw [hP.len]; omega)]; decide
      unfold Mx.sumAt at *
      simp only [List.map_cons, List.sum_cons, List.length_cons]
      omega
  have h4 := h2 (ofc b h)
  have h5 : (ofc b h).length ≤ b.m := Mx.pick_len
  have h6 := hb.m24
  have : ((ofc b h).length : Int) * 999 ≤ 24 * 999 := Int.mul_le_mul_of_nonneg_right (by omega) (by decide)
  unfold Mx.mean; omega
def Hs (b : Bk) (hs : List Int) : Prop := hs.length ≤ 1000 ∧ ∀ h ∈ hs, 0 ≤ h ∧ h < b.n
theorem hs_all {b : Bk} (hb : BkW b) : Hs b (allH b) := ⟨by unfold Mx.allH; simp; have := hb.n8; omega, fun h hh => by
  unfold Mx.allH at hh
  obtain ⟨k, hk, rfl⟩ := List.mem_map.mp hh
  rw [List.mem_range] at hk
  omega⟩
theorem set_ix {Q : List Int} {i : Int} (h0 : 0 ≤ i) (h1 : i < Q.length) : ixN (Q.map D.int).length i = some i.toNat := ixN_ok h0 (by rw [List.length_map]; exact h1)
def p_behind : PD := fun ds K => ∃ (b : Bk) (hs P : List Int), ds = [bkD b, .lst (hs.map D.int), .lst (P.map D.int)] ∧ BkW b ∧ Hs b hs ∧ POk b P ∧ K (.lst ((T b hs P).map D.int))
/-! behind -/
def m_behind {ω : Type} (C : Cn ω) : SM C :=
  (seqM (ownM 3 (callM listF (consA (nameM 2) nilA)))
  (seqM (forM (.nm 4) (iterL (nameM 1)) (forM (.tp [5, 6]) (iterItems (c_paid_with (consA (nameM 0) (consA (nameM 4) (consA (c_means_of (consA (nameM 0) (consA (nameM 4) (consA (nameM 2) nilA)))) nilA))))) (setM 3 (nameM 5) (nameM 6))))
  (frzM 3 (retM (nameM 3)))))
abbrev c_behind {ω : Type} {C : Cn ω} (ts : AM C) : EM C := callD 3 [] p_behind ts

theorem r_behind {ω : Type} {C : Cn ω} (ds : List D) (Kp : D → Prop) (hl : ds.length = 3) (hp : p_behind ds Kp) (w : ω) : m_behind C ⟨fun _ _ => Kp .non, fun d _ => Kp d, fun _ _ => False, fun _ _ => False⟩ (startG 7 [] ds) w := by
  obtain ⟨b, hs, P, rfl, hb, hh, hP, hk⟩ := hp
  rw [st_bk]
  have hm := hb.m24
  refine ⟨by rw [nmL_ints], rfl, ?_⟩
  refine ⟨_, rfl, rfl, ?_⟩
  refine loop_by (fun k Γ w => k ≤ hs.length ∧ ∃ s4 s5 s6, Γ = [.val true (bkD b), .val false (.lst (hs.map D.int)), .val false (.lst (P.map D.int)), .own (.lst ((T b (hs.take k) P).map D.int)), s4, s5, s6]) (fun k d Γ w N hd hI hN => ?_) (fun Γ w hI => ?_) ⟨Nat.zero_le _, .no, .no, .no, by rw [List.take_zero, T_nil b hP.len]; rfl⟩
  · obtain ⟨hk1, s4, s5, s6, rfl⟩ := hI
    obtain ⟨h, hh1, rfl⟩ := get_ints hd
    have hkl : k < hs.length := (List.getElem?_eq_some_iff.mp hh1).1
    obtain ⟨h0, h1⟩ := hh.2 h (List.mem_of_getElem? hh1)
    have m0 := Mx.mean_nn hb h hP.nn
    have m1 := mean_hi hb h hP
    refine ⟨rfl, rfl, b, h, P, rfl, hb, h0, h1, hP.len, rfl, rfl, b, h, mean b h P, rfl, hb, m0, m1, rfl, _, _, rfl, rfl, ?_⟩
    rw [it_pairs]
    have hkeys : ∀ z ∈ payP b h (mean b h P), z.1 ∈ on b h := fun z hz => (Mx.payP_keys hb h m0).mem_iff.mp (List.mem_map.mpr ⟨z, hz, rfl⟩)
    refine loop_by (fun j Γ w => j ≤ (payP b h (mean b h P)).length ∧ ∃ s5 s6, Γ = [.val true (bkD b), .val false (.lst (hs.map D.int)), .val false (.lst (P.map D.int)), .own (.lst ((upds (T b (hs.take k) P) ((payP b h (mean b h P)).take j)).map D.int)), .val true (.int h), s5, s6]) (fun j d Γ w N' hd hI hN' => ?_) (fun Γ w hI => ?_) ⟨Nat.zero_le _, s5, s6, rfl⟩
    · obtain ⟨hj1, s5, s6, rfl⟩ := hI
      have hz : ∃ z : Int × Int, (payP b h (mean b h P))[j]? = some z ∧ d = pD z := by
        rw [List.getElem?_map] at hd
        cases e : (payP b h (mean b h P))[j]? with
        | none => rw [e] at hd; cases hd
        | some z => rw [e] at hd; cases hd; exact ⟨z, rfl, rfl⟩
      obtain ⟨z, hz, rfl⟩ := hz
      have hjl : j < (payP b h (mean b h P)).length := (List.getElem?_eq_some_iff.mp hz).1
      obtain ⟨g0, g1, _⟩ := Mx.on_mem.mp (hkeys z (List.mem_of_getElem? hz))
      refine asg_tp2 rfl rfl ⟨rfl, rfl, _, rfl, _, _, rfl, set_ix g0 (by rw [upds_len, Mx.T_len]; exact g1), hN' _ _ ⟨hjl, .val true (.int z.1), .val true (.int z.2), ?_⟩⟩
      rw [List.take_add_one, hz]
      show [_, _, _, Sl.own (.lst ((List.map D.int _).set z.1.toNat (.int z.2))), _, _, _] = [_, _, _, Sl.own (.lst (List.map D.int (upds _ (_ ++ [z])))), _, _, _]
      rw [upds_snoc, set_ints]
    · obtain ⟨_, s5, s6, rfl⟩ := hI
      rw [List.length_map, List.take_length]
      refine hN _ _ ⟨hkl, .val true (.int h), s5, s6, ?_⟩
      rw [step_house hb hP h0, List.take_add_one, hh1]; rfl
  · obtain ⟨_, s4, s5, s6, rfl⟩ := hI
    rw [List.length_map, List.take_length]
    exact ⟨rfl, rfl, hk⟩
--END behind
theorem st_bk3 (n : Nat) (b : Bk) (x y : D) : startG (n + 3) [false, false, true] [bkD b, x, y] = [.val true (bkD b), .val (false || x.flat) x, .val true y] ++ List.replicate n .no := by
  show Sl.val (false || (bkD b).flat) (bkD b) :: _ = _
  rw [flat_bk]; rfl
def p_settled : PD := fun ds K => ∃ (b : Bk) (hs P : List Int), ds = [bkD b, .lst (hs.map D.int), .lst (P.map D.int)] ∧ BkW b ∧ Hs b hs ∧ POk b P ∧ Way b hs P ∧ K (.lst ((lim b hs P).map D.int))
/-! settled -/
def m_settled {ω : Type} (C : Cn ω) : SM C :=
  (seqM (asgM (.nm 3) (c_behind (consA (nameM 0) (consA (nameM 1) (consA (nameM 2) nilA)))))
  (seqM (whileM (testM (binM neF (nameM 3) (nameM 2))) (seqM (asgM (.nm 2) (nameM 3))
  (asgM (.nm 3) (c_behind (consA (nameM 0) (consA (nameM 1) (consA (nameM 2) nilA)))))))
  (retM (nameM 2))))
abbrev c_settled {ω : Type} {C : Cn ω} (ts : AM C) : EM C := callD 3 [false, false, true] p_settled ts

theorem r_settled {ω : Type} {C : Cn ω} (ds : List D) (Kp : D → Prop) (hl : ds.length = 3) (hp : p_settled ds Kp) (w : ω) : m_settled C ⟨fun _ _ => Kp .non, fun d _ => Kp d, fun _ _ => False, fun _ _ => False⟩ (startG 4 [false, false, true] ds) w := by
  obtain ⟨b, hs, P, rfl, hb, hh, hP, hw, hk⟩ := hp
  rw [st_bk3]
  refine ⟨rfl, rfl, b, hs, P, rfl, hb, hh, hP, rfl, ?_⟩
  refine ⟨fun m Γ w => ∃ n, n ≤ 24000 ∧ m = 24000 - n ∧ Γ = [.val true (bkD b), .val false (.lst (hs.map D.int)), .val true (.lst ((it b hs P n).map D.int)), .val true (.lst ((it b hs P (n + 1)).map D.int))], ⟨24000, 0, by omega, rfl, rfl⟩, fun m Γ w hI => ?_⟩
  obtain ⟨n, hn, rfl, rfl⟩ := hI
  refine ⟨cmp_ints _, cmp_ints _, _, rfl, ?_⟩
  show (if (!(D.lst ((it b hs P (n + 1)).map D.int)).eqv (.lst ((it b hs P n).map D.int))) = true then _ else _)
  rw [eqv_ints]
  by_cases e : it b hs P (n + 1) = it b hs P n
  · refine iteNt e ⟨rfl, rfl, ?_⟩
    rw [Mx.lim_of hn e]; exact hk
  · have := Mx.few hb hP hw e
    exact iteNn e ⟨rfl, rfl, rfl, b, hs, it b hs P (n + 1), rfl, hb, hh, Mx.it_ok hb hs hP _, rfl, _, (by omega : 24000 - (n + 1) < 24000 - n), n + 1, by omega, rfl, rfl⟩
--END settled
def p_in_full : PD := fun ds K => ∃ b : Bk, ds = [bkD b] ∧ BkW b ∧ K (.lst ((fullP b).map D.int))
def amtC : D → D | .tup (_ :: _ :: a :: _) => a | d => d
theorem full_map (b : Bk) : (b.cl.map clD).map amtC = (fullP b).map D.int := by unfold Mx.fullP; rw [List.map_map, List.map_map]; rfl
theorem mem_cl {b : Bk} {d : D} (h : d ∈ b.cl.map clD) : ∃ x ∈ b.cl, d = clD x := by
  obtain ⟨x, hx, rfl⟩ := List.mem_map.mp h; exact ⟨x, hx, rfl⟩
/-! in_full -/
def m_in_full {ω : Type} (C : Cn ω) : SM C :=
  (retM (lcM (.nm 1) (iterT (binM ixF (nameM 0) (constM (.int 1)))) yesM (binM ixF (nameM 1) (constM (.int 2))) [1]))
abbrev c_in_full {ω : Type} {C : Cn ω} (ts : AM C) : EM C := callD 1 [] p_in_full ts

theorem r_in_full {ω : Type} {C : Cn ω} (ds : List D) (Kp : D → Prop) (hl : ds.length = 1) (hp : p_in_full ds Kp) (w : ω) : m_in_full C ⟨fun _ _ => Kp .non, fun d _ => Kp d, fun _ _ => False, fun _ _ => False⟩ (startG 2 [] ds) w := by
  obtain ⟨b, rfl, hb, hk⟩ := hp
  rw [st_bk]
  have hm := hb.m24
  have lm : (b.cl.map clD).length = b.m := List.length_map _
  refine ⟨_, rfl, _, rfl, rfl, ?_⟩
  refine lc_map amtC (fun d hd => ?_) (by rw [lm]; omega) (fun d hd N hN => ?_) ?_
  · obtain ⟨x, _, rfl⟩ := mem_cl hd; rfl
  · obtain ⟨x, _, rfl⟩ := mem_cl hd; exact ⟨_, rfl, hN _ rfl⟩
  · rw [full_map]; exact ⟨rfl, rfl, hk⟩
--END in_full
def p_greatest : PD := fun ds K => ∃ b : Bk, ds = [bkD b] ∧ BkW b ∧ K (.lst ((bst b).map D.int))
/-! greatest -/
def m_greatest {ω : Type} (C : Cn ω) : SM C :=
  (retM (c_settled (consA (nameM 0) (consA (lrngM (callM lenF (consA (binM ixF (nameM 0) (constM (.int 0))) nilA))) (consA (c_in_full (consA (nameM 0) nilA)) nilA)))))
abbrev c_greatest {ω : Type} {C : Cn ω} (ts : AM C) : EM C := callD 1 [] p_greatest ts

theorem r_greatest {ω : Type} {C : Cn ω} (ds : List D) (Kp : D → Prop) (hl : ds.length = 1) (hp : p_greatest ds Kp) (w : ω) : m_greatest C ⟨fun _ _ => Kp .non, fun d _ => Kp d, fun _ _ => False, fun _ _ => False⟩ (startG 1 [] ds) w := by
  obtain ⟨b, rfl, hb, hk⟩ := hp
  rw [st_bk]
  have hn := hb.n8
  have ln : (b.cash.map D.int).length = b.n := List.length_map _
  refine ⟨_, rfl, _, rfl, by rw [ln]; omega, by rw [ln]; omega, rfl, rfl, b, rfl, hb, rfl, rfl, b, allH b, fullP b, ?_, hb, hs_all hb, Mx.full_ok hb, Mx.full_way hb _, rfl, rfl, hk⟩
  show [bkD b, .lst (rngD 0 _), _] = _
  rw [rng_all]
--END greatest
def p_best : PD := fun ds K => ∃ b : Bk, ds = [bkD b] ∧ BkOk b ∧ K (.lst ((bst b).map D.int))
/-! best -/
def m_best {ω : Type} (C : Cn ω) : SM C :=
  (seqM (dropM (c_need_book (consA (nameM 0) nilA)))
  (retM (c_greatest (consA (nameM 0) nilA))))
abbrev c_best {ω : Type} {C : Cn ω} (ts : AM C) : EM C := callD 1 [] p_best ts

theorem r_best {ω : Type} {C : Cn ω} (ds : List D) (Kp : D → Prop) (hl : ds.length = 1) (hp : p_best ds Kp) (w : ω) : m_best C ⟨fun _ _ => Kp .non, fun d _ => Kp d, fun _ _ => False, fun _ _ => False⟩ (startG 1 [] ds) w := by
  obtain ⟨b, rfl, hb, hk⟩ := hp
  rw [st_bk]
  exact ⟨rfl, rfl, b, rfl, hb, rfl, rfl, b, rfl, hb, rfl, rfl, hk⟩
--END best
def p_worst : PD := fun ds K => ∃ b : Bk, ds = [bkD b] ∧ BkOk b ∧ K (.lst ((wst b).map D.int))
theorem zero_map (b : Bk) : (b.cl.map clD).map (fun _ => D.int 0) = (zeroP b).map D.int := by
  unfold Mx.zeroP Mx.zeros Mx.Bk.m
  rw [List.map_replicate, List.map_map]
  exact List.map_const'
/-! worst -/
def m_worst {ω : Type} (C : Cn ω) : SM C :=
  (seqM (dropM (c_need_book (consA (nameM 0) nilA)))
  (retM (c_settled (consA (nameM 0) (consA (lrngM (callM lenF (consA (binM ixF (nameM 0) (constM (.int 0))) nilA))) (consA (lcM (.nm 1) (iterT (binM ixF (nameM 0) (constM (.int 1)))) yesM (constM (.int 0)) [1]) nilA))))))
abbrev c_worst {ω : Type} {C : Cn ω} (ts : AM C) : EM C := callD 1 [] p_worst ts

theorem r_worst {ω : Type} {C : Cn ω} (ds : List D) (Kp : D → Prop) (hl : ds.length = 1) (hp : p_worst ds Kp) (w : ω) : m_worst C ⟨fun _ _ => Kp .non, fun d _ => Kp d, fun _ _ => False, fun _ _ => False⟩ (startG 2 [] ds) w := by
  obtain ⟨b, rfl, hb, hk⟩ := hp
  rw [st_bk]
  have hm := hb.m24
  have hn := hb.n8
  have ln : (b.cash.map D.int).length = b.n := List.length_map _
  have lm : (b.cl.map clD).length = b.m := List.length_map _
  refine ⟨rfl, rfl, b, rfl, hb, _, rfl, _, rfl, by rw [ln]; omega, by rw [ln]; omega, _, rfl, _, rfl, rfl, ?_⟩
  refine lc_map (fun _ => D.int 0) (fun d hd => rfl) (by rw [lm]; omega) (fun d hd N hN => hN _ rfl) ?_
  rw [zero_map]
  refine ⟨rfl, rfl, b, allH b, zeroP b, ?_, hb, hs_all hb, Mx.zero_ok hb, Mx.zero_way hb _, rfl, rfl, hk⟩
  show [bkD b, .lst (rngD 0 _), _] = _
  rw [rng_all]
--END worst
def p_is_clearing : PD := fun ds K => ∃ (b : Bk) (P : List Int), ds = [bkD b, .lst (P.map D.int)] ∧ BkOk b ∧ POk b P ∧ K (.bl (decide (T b (allH b) P = P)))
/-! is_clearing -/
def m_is_clearing {ω : Type} (C : Cn ω) : SM C :=
  (seqM (dropM (c_need_book (consA (nameM 0) nilA)))
  (seqM (dropM (c_need_payments (consA (nameM 0) (consA (nameM 1) nilA))))
  (retM (binM eqF (c_behind (consA (nameM 0) (consA (lrngM (callM lenF (consA (binM ixF (nameM 0) (constM (.int 0))) nilA))) (consA (nameM 1) nilA)))) (callM listF (consA (nameM 1) nilA))))))
abbrev c_is_clearing {ω : Type} {C : Cn ω} (ts : AM C) : EM C := callD 2 [] p_is_clearing ts

theorem r_is_clearing {ω : Type} {C : Cn ω} (ds : List D) (Kp : D → Prop) (hl : ds.length = 2) (hp : p_is_clearing ds Kp) (w : ω) : m_is_clearing C ⟨fun _ _ => Kp .non, fun d _ => Kp d, fun _ _ => False, fun _ _ => False⟩ (startG 2 [] ds) w := by
  obtain ⟨b, P, rfl, hb, hP, hk⟩ := hp
  rw [st_bk]
  have hn := hb.n8
  have ln : (b.cash.map D.int).length = b.n := List.length_map _
  refine ⟨rfl, rfl, b, rfl, hb, rfl, rfl, b, P, rfl, hb, hP, _, rfl, _, rfl, by rw [ln]; omega, by rw [ln]; omega, rfl, rfl, b, allH b, P, ?_, hb, hs_all hb, hP, cmp_ints _, cmp_ints _, rfl, rfl, ?_⟩
  · show [bkD b, .lst (rngD 0 _), _] = _
    rw [rng_all]
  · show Kp (.bl ((D.lst ((T b (allH b) P).map D.int)).eqv (.lst (P.map D.int))))
    rw [eqv_ints]; exact hk
--END is_clearing
/-! ### the law's own steps -/
theorem lc_selmap {ω : Type} {C : Cn ω} {tg : Tg} {fr : Bool} {tt : BM C} {te : EM C} {Γ : List Sl} {K : Md → List D → ω → Prop} (p : Int → Bool) (f : Int → Int) {l : List Int} {w : ω} (hl : l.length < 1000000)
    (hs : ∀ i ∈ l, ∀ (R : Bool → ω → Prop), R (p i) w → tg.asg fr (.int i) Γ fun Γ' => tt Γ' w R) (he : ∀ i ∈ l, ∀ (R : Md → D → ω → Prop), (∀ md, md.ok = true → R md (.int (f i)) w) → tg.asg fr (.int i) Γ fun Γ' => te Γ' w R)
    (ht : ∀ i, ∃ Γ' : List Sl, ∀ P : List Sl → Prop, tg.asg fr (.int i) Γ P ↔ P Γ') (hd : K .F (((l.filter p).map f).map D.int) w) : lcLoop tg fr tt te Γ K (l.map D.int) w .F [] := by
  refine lc_by (fun k w' m acc => w' = w ∧ m = .F ∧ k ≤ l.length ∧ acc = (((l.take k).filter p).map f).map D.int) (fun k d w' m acc N h1 h2 h3 => ?_) (fun w' m acc h => ?_) ⟨rfl, rfl, Nat.zero_le _, rfl⟩
  · obtain ⟨rfl, rfl, hk, rfl⟩ := h2
    obtain ⟨i, hi, rfl⟩ := get_ints h1
    have hm := List.mem_of_getElem? hi
    have hlt : k < l.length := (List.getElem?_eq_some_iff.mp hi).1
    obtain ⟨Γ', hΓ⟩ := ht i
    have htk : l.take (k + 1) = l.take k ++ [i] := by rw [List.take_add_one, hi]; rfl
    refine (hΓ _).mpr ((hΓ _).mp (hs i hm _ ?_))
    have hfl : ((l.take k).filter p).length ≤ k := Nat.le_trans (List.length_filter_le _ _) (by rw [List.length_take]; omega)
    refine ite2 (fun q => ?_) (fun q => ?_)
    · exact (hΓ _).mp (he i hm _ fun md ho => ⟨ho, by rw [List.length_map, List.length_map]; omega, h3 _ _ _ ⟨rfl, rfl, hlt, by rw [htk, List.filter_append, List.filter_cons_of_pos q, List.map_append, List.map_append]; rfl⟩⟩)
    · exact h3 _ _ _ ⟨rfl, rfl, hlt, by rw [htk, List.filter_append, List.filter_cons_of_neg (by simpa using q)]; simp⟩
  · obtain ⟨rfl, rfl, _, rfl⟩ := h
    rw [List.length_map, List.take_length]; exact hd
abbrev p_l_means : PD := p_means_of
/-! l_means -/
def m_l_means {ω : Type} (C : Cn ω) : SM C :=
  (retM (binM addF (binM ixF (binM ixF (nameM 0) (constM (.int 0))) (nameM 1)) (callM sumF (consA (lcM (.nm 3) (iterR1 (consA (callM lenF (consA (nameM 2) nilA)) nilA)) (testM (binM eqF (binM ixF (binM ixF (binM ixF (nameM 0) (constM (.int 1))) (nameM 3)) (constM (.int 1))) (nameM 1))) (binM ixF (nameM 2) (nameM 3)) [3]) nilA))))
abbrev c_l_means {ω : Type} {C : Cn ω} (ts : AM C) : EM C := callD 3 [] p_l_means ts

theorem r_l_means {ω : Type} {C : Cn ω} (ds : List D) (Kp : D → Prop) (hl : ds.length = 3) (hp : p_l_means ds Kp) (w : ω) : m_l_means C ⟨fun _ _ => Kp .non, fun d _ => Kp d, fun _ _ => False, fun _ _ => False⟩ (startG 4 [] ds) w := by
  obtain ⟨b, h, P, rfl, hb, h0, h1, hP, hk⟩ := hp
  rw [st_bk]
  have hm := hb.m24
  refine ⟨_, rfl, _, cash_ix h0 h1, _, _, rfl, by rw [List.length_map]; omega, by rw [List.length_map]; omega, rfl, ?_⟩
  rw [List.length_map, hP, rng_nat]
  refine lc_selmap (fun i => decide ((b.at i).c = h)) (fun i => at' P i.toNat) (by simp; omega) (fun i hi R hR => ?_) (fun i hi R hR => ?_) (fun i => ⟨_, fun P => Iff.rfl⟩) ?_
  · obtain ⟨j, hj, rfl⟩ := List.mem_map.mp hi
    rw [List.mem_range] at hj
    refine ⟨_, rfl, _, at_cl (by omega) (by omega), _, rfl, cmp_int _, cmp_int _, _, rfl, ?_⟩
    rw [eqv_int]; exact hR
  · obtain ⟨j, hj, rfl⟩ := List.mem_map.mp hi
    rw [List.mem_range] at hj
    exact ⟨_, at_nat (by omega) (by omega), hR _ rfl⟩
  · rw [show (((List.range b.m).map fun (k : Nat) => ((k : Nat) : Int)).filter fun i => decide ((b.at i).c = h)) = ofc b h from pick_range (f := fun x => decide (x.c = h))]
    exact ⟨_, _, rfl, rfl, rfl, hk⟩
--END l_means
abbrev p_l_behind : PD := p_behind
/-! l_behind -/
def m_l_behind {ω : Type} (C : Cn ω) : SM C :=
  (seqM (ownM 3 (callM listF (consA (nameM 2) nilA)))
  (seqM (forM (.nm 4) (iterL (nameM 1)) (seqM (asgM (.nm 5) (lockM (c_l_paid (consA (nameM 0) (consA (nameM 4) (consA (c_l_means (consA (nameM 0) (consA (nameM 4) (consA (nameM 2) nilA)))) nilA))))))
  (forM (.nm 6) (iterFk (nameM 5)) (setM 3 (nameM 6) (binM fgetF (nameM 5) (nameM 6))))))
  (frzM 3 (retM (nameM 3)))))
abbrev c_l_behind {ω : Type} {C : Cn ω} (ts : AM C) : EM C := callD 3 [] p_l_behind ts

theorem r_l_behind {ω : Type} {C : Cn ω} (ds : List D) (Kp : D → Prop) (hl : ds.length = 3) (hp : p_l_behind ds Kp) (w : ω) : m_l_behind C ⟨fun _ _ => Kp .non, fun d _ => Kp d, fun _ _ => False, fun _ _ => False⟩ (startG 7 [] ds) w := by
  obtain ⟨b, hs, P, rfl, hb, hh, hP, hk⟩ := hp
  rw [st_bk]
  have hm := hb.m24
  refine ⟨by rw [nmL_ints], rfl, ?_⟩
  refine ⟨_, rfl, rfl, ?_⟩
  refine loop_by (fun k Γ w => k ≤ hs.length ∧ ∃ s4 s5 s6, Γ = [.val true (bkD b), .val false (.lst (hs.map D.int)), .val false (.lst (P.map D.int)), .own (.lst ((T b (hs.take k) P).map D.int)), s4, s5, s6]) (fun k d Γ w N hd hI hN => ?_) (fun Γ w hI => ?_) ⟨Nat.zero_le _, .no, .no, .no, by rw [List.take_zero, T_nil b hP.len]; rfl⟩
  · obtain ⟨hk1, s4, s5, s6, rfl⟩ := hI
    obtain ⟨h, hh1, rfl⟩ := get_ints hd
    have hkl : k < hs.length := (List.getElem?_eq_some_iff.mp hh1).1
    obtain ⟨h0, h1⟩ := hh.2 h (List.mem_of_getElem? hh1)
    have m0 := Mx.mean_nn hb h hP.nn
    have m1 := mean_hi hb h hP
    refine ⟨rfl, rfl, b, h, P, rfl, hb, h0, h1, hP.len, rfl, rfl, b, h, mean b h P, rfl, hb, m0, m1, rfl, payP b h (mean b h P), rfl, rfl, ?_⟩
    have hkeys : ∀ z ∈ payP b h (mean b h P), z.1 ∈ on b h := fun z hz => (Mx.payP_keys hb h m0).mem_iff.mp (List.mem_map.mpr ⟨z, hz, rfl⟩)
    refine ⟨_, rfl, rfl, ?_⟩
    refine loop_by (fun j Γ w => j ≤ (payP b h (mean b h P)).length ∧ ∃ s6, Γ = [.val true (bkD b), .val false (.lst (hs.map D.int)), .val false (.lst (P.map D.int)), .own (.lst ((upds (T b (hs.take k) P) ((payP b h (mean b h P)).take j)).map D.int)), .val true (.int h), .val true (.fdc (payP b h (mean b h P))), s6]) (fun j d Γ w N' hd hI hN' => ?_) (fun Γ w hI => ?_) ⟨Nat.zero_le _, s6, rfl⟩
    · obtain ⟨hj1, s6, rfl⟩ := hI
      have hz : ∃ z : Int × Int, (payP b h (mean b h P))[j]? = some z ∧ d = .int z.1 := by
        rw [List.getElem?_map] at hd
        cases e : (payP b h (mean b h P))[j]? with
        | none => rw [e] at hd; cases hd
        | some z => rw [e] at hd; cases hd; exact ⟨z, rfl, rfl⟩
      obtain ⟨z, hz, rfl⟩ := hz
      have hzm := List.mem_of_getElem? hz
      have hjl : j < (payP b h (mean b h P)).length := (List.getElem?_eq_some_iff.mp hz).1
      obtain ⟨g0, g1, _⟩ := Mx.on_mem.mp (hkeys z hzm)
      have hlk : dlook ((payP b h (mean b h P)).map (·.1)) ((payP b h (mean b h P)).map fun z => .int z.2) z.1 = some (.int z.2) := by
        rw [dlook_pairs, Mx.lookup_in (Mx.payP_nodup hb h m0) hzm]; rfl
      refine ⟨_, hlk, rfl, rfl, _, rfl, _, _, rfl, set_ix g0 (by rw [upds_len, Mx.T_len]; exact g1), hN' _ _ ⟨hjl, .val true (.int z.1), ?_⟩⟩
      rw [List.take_add_one, hz]
      show [_, _, _, Sl.own (.lst ((List.map D.int _).set z.1.toNat (.int z.2))), _, _, _] = [_, _, _, Sl.own (.lst (List.map D.int (upds _ (_ ++ [z])))), _, _, _]
      rw [upds_snoc, set_ints]
      try rfl
    · obtain ⟨_, s6, rfl⟩ := hI
      rw [List.length_map, List.take_length]
      refine hN _ _ ⟨hkl, .val true (.int h), .val true (.fdc (payP b h (mean b h P))), s6, ?_⟩
      rw [step_house hb hP h0, List.take_add_one, hh1]; rfl
  · obtain ⟨_, s4, s5, s6, rfl⟩ := hI
    rw [List.length_map, List.take_length]
    exact ⟨rfl, rfl, hk⟩
--END l_behind
abbrev p_l_led : PD := p_settled
/-! l_led -/
def m_l_led {ω : Type} (C : Cn ω) : SM C :=
  (seqM (asgM (.nm 3) (c_l_behind (consA (nameM 0) (consA (nameM 1) (consA (nameM 2) nilA)))))
  (seqM (whileM (testM (binM neF (nameM 3) (nameM 2))) (seqM (asgM (.nm 2) (nameM 3))
  (asgM (.nm 3) (c_l_behind (consA (nameM 0) (consA (nameM 1) (consA (nameM 2) nilA)))))))
  (retM (nameM 2))))
abbrev c_l_led {ω : Type} {C : Cn ω} (ts : AM C) : EM C := callD 3 [false, false, true] p_l_led ts

theorem r_l_led {ω : Type} {C : Cn ω} (ds : List D) (Kp : D → Prop) (hl : ds.length = 3) (hp : p_l_led ds Kp) (w : ω) : m_l_led C ⟨fun _ _ => Kp .non, fun d _ => Kp d, fun _ _ => False, fun _ _ => False⟩ (startG 4 [false, false, true] ds) w := by
  obtain ⟨b, hs, P, rfl, hb, hh, hP, hw, hk⟩ := hp
  rw [st_bk3]
  refine ⟨rfl, rfl, b, hs, P, rfl, hb, hh, hP, rfl, ?_⟩
  refine ⟨fun m Γ w => ∃ n, n ≤ 24000 ∧ m = 24000 - n ∧ Γ = [.val true (bkD b), .val false (.lst (hs.map D.int)), .val true (.lst ((it b hs P n).map D.int)), .val true (.lst ((it b hs P (n + 1)).map D.int))], ⟨24000, 0, by omega, rfl, rfl⟩, fun m Γ w hI => ?_⟩
  obtain ⟨n, hn, rfl, rfl⟩ := hI
  refine ⟨cmp_ints _, cmp_ints _, _, rfl, ?_⟩
  show (if (!(D.lst ((it b hs P (n + 1)).map D.int)).eqv (.lst ((it b hs P n).map D.int))) = true then _ else _)
  rw [eqv_ints]
  by_cases e : it b hs P (n + 1) = it b hs P n
  · refine iteNt e ⟨rfl, rfl, ?_⟩
    rw [Mx.lim_of hn e]; exact hk
  · have := Mx.few hb hP hw e
    exact iteNn e ⟨rfl, rfl, rfl, b, hs, it b hs P (n + 1), rfl, hb, hh, Mx.it_ok hb hs hP _, rfl, _, (by omega : 24000 - (n + 1) < 24000 - n), n + 1, by omega, rfl, rfl⟩
--END l_led
theorem it_le {b : Bk} (hb : BkW b) (hs : List Int) {P Q : List Int} (hP : POk b P) (hQ : POk b Q) (h : Le P Q) : ∀ n, Le (it b hs P n) (it b hs Q n)
  | 0 => h
  | n + 1 => Mx.T_mono hb hs (Mx.it_ok hb hs hP n) (it_le hb hs hP hQ h n)
theorem wst_bst {b : Bk} (hb : BkW b) : Le (wst b) (bst b) := it_le hb _ (Mx.zero_ok hb) (Mx.full_ok hb) (Mx.zero_le (Mx.full_ok hb)) _
theorem bst_ok {b : Bk} (hb : BkW b) : POk b (bst b) := Mx.lim_ok hb _ (Mx.full_ok hb)
theorem wst_ok {b : Bk} (hb : BkW b) : POk b (wst b) := Mx.lim_ok hb _ (Mx.zero_ok hb)
theorem bst_fix {b : Bk} (hb : BkW b) : T b (allH b) (bst b) = bst b := Mx.lim_fix hb (Mx.full_ok hb) (Mx.full_way hb _)
theorem wst_fix {b : Bk} (hb : BkW b) : T b (allH b) (wst b) = wst b := Mx.lim_fix hb (Mx.zero_ok hb) (Mx.zero_way hb _)
theorem sumAt_full {b : Bk} : ∀ {l : List Int}, (∀ i ∈ l, 0 ≤ i ∧ i < b.m) → sumAt (fullP b) l = (l.map fun i => (b.at i).a).sum
  | [], _ => rfl
  | x :: l, h => by
    obtain ⟨h0, h1⟩ := h x (by simp)
    have ih := sumAt_full (l := l) fun i hi => h i (List.mem_cons_of_mem _ hi)
    have e : at' (fullP b) x.toNat = (b.at x).a := by rw [Mx.full_at (by omega), show ((x.toNat : Nat) : Int) = x by omega]
    unfold Mx.sumAt at *
    simp only [List.map_cons, List.sum_cons]
    rw [ih, e]
def p_net : PD := fun ds K => ∃ b : Bk, ds = [bkD b] ∧ BkOk b ∧ K (.lst ((lft b (fullP b)).map D.int))
/-! net -/
def m_net {ω : Type} (C : Cn ω) : SM C :=
  (seqM (dropM (c_need_book (consA (nameM 0) nilA)))
  (seqM (ownM 1 (lstM nilA))
  (seqM (forM (.nm 2) (iterR1 (consA (callM lenF (consA (binM ixF (nameM 0) (constM (.int 0))) nilA)) nilA)) (seqM (asgM (.nm 3) (callM sumF (consA (lcM (.nm 4) (iterL (c_claims_of (consA (nameM 0) (consA (nameM 2) nilA)))) yesM (binM ixF (binM ixF (binM ixF (nameM 0) (constM (.int 1))) (nameM 4)) (constM (.int 2))) [4]) nilA)))
  (appM 1 (binM subF (binM addF (binM ixF (binM ixF (nameM 0) (constM (.int 0))) (nameM 2)) (nameM 3)) (c_all_owed (consA (nameM 0) (consA (nameM 2) nilA)))))))
  (frzM 1 (retM (nameM 1))))))
abbrev c_net {ω : Type} {C : Cn ω} (ts : AM C) : EM C := callD 1 [] p_net ts

theorem r_net {ω : Type} {C : Cn ω} (ds : List D) (Kp : D → Prop) (hl : ds.length = 1) (hp : p_net ds Kp) (w : ω) : m_net C ⟨fun _ _ => Kp .non, fun d _ => Kp d, fun _ _ => False, fun _ _ => False⟩ (startG 5 [] ds) w := by
  obtain ⟨b, rfl, hb, hk⟩ := hp
  rw [st_bk]
  have hm := hb.m24
  have hn := hb.n8
  have ln : (b.cash.map D.int).length = b.n := List.length_map _
  have ll : (lft b (fullP b)).length = b.n := by unfold Mx.lft; simp
  refine ⟨rfl, rfl, b, rfl, hb, (by show 0 ≤ 1000; decide), rfl, rfl, rfl, ?_⟩
  refine ⟨_, rfl, _, _, rfl, by rw [ln]; omega, by rw [ln]; omega, rfl, ?_⟩
  refine loop_by (fun k Γ w => k ≤ b.n ∧ ∃ s2 s3, Γ = [.val true (bkD b), .own (.lst (((lft b (fullP b)).take k).map D.int)), s2, s3, .no]) (fun k d Γ w N hd hI hN => ?_) (fun Γ w hI => ?_) ⟨Nat.zero_le _, _, _, rfl⟩
  · obtain ⟨hk1, s2, s3, rfl⟩ := hI
    obtain ⟨rfl, hk2⟩ := rng_get hd
    rw [ln] at hk2
    have hkn : k < b.n := by omega
    have hol : (ofc b (0 + (k : Int))).length ≤ b.m := Mx.pick_len
    refine ⟨rfl, rfl, b, 0 + (k : Int), rfl, by omega, _, rfl, rfl, ?_⟩
    refine lc_map (amtG b) (fun d hd => ?_) (by rw [List.length_map]; omega) (fun d hd N hN => ?_) ?_
    · obtain ⟨i, hi, rfl⟩ := mem_ints hd; rfl
    · obtain ⟨i, hi, rfl⟩ := mem_ints hd
      obtain ⟨h0, h1, _⟩ := Mx.ofc_mem.mp hi
      exact ⟨_, rfl, _, at_cl h0 h1, _, rfl, hN _ rfl⟩
    rw [ints_map (fun i => (b.at i).a) _ _ fun i => rfl]
    refine ⟨_, _, rfl, rfl, ?_⟩
    refine ⟨_, rfl, by rw [List.length_map, List.length_take]; omega, _, rfl, _, cash_ix (b := b) (h := 0 + (k : Int)) (by omega) (by omega), rfl, rfl, b, 0 + (k : Int), rfl, by omega, rfl, rfl, hN _ _ ⟨by omega, .val true (.int (0 + (k : Int))), .val true (.int ((ofc b (0 + (k : Int))).map fun i => (b.at i).a).sum), ?_⟩⟩
    have e : (lft b (fullP b))[k]? = some (at' b.cash (0 + (k : Int)).toNat + ((ofc b (0 + (k : Int))).map fun i => (b.at i).a).sum - owe b (0 + (k : Int))) := by
      unfold Mx.lft Mx.mean
      rw [List.getElem?_map, List.getElem?_range hkn, Int.zero_add]
      show some (_ + _ - _) = _
      rw [sumAt_full fun i hi => (by obtain ⟨h0, h1, _⟩ := Mx.ofc_mem.mp hi; exact ⟨h0, h1⟩), sumAt_full fun i hi => (by obtain ⟨h0, h1, _⟩ := Mx.on_mem.mp hi; exact ⟨h0, h1⟩)]
      rfl
    rw [List.take_add_one, e, List.map_append]
    rfl
  · obtain ⟨_, s2, s3, rfl⟩ := hI
    rw [rng_len, ln, show (((b.n : Nat) : Int) - 0).toNat = (lft b (fullP b)).length by omega, List.take_length]
    exact ⟨rfl, rfl, hk⟩
--END net
end VS

namespace VS
open PySem PySem.Spec PyProof.Rows L2
open Mx (Cl Bk BkOk BkW ClOk on owe grp payG payP ranks9 pick at' sh coin ofc POk sumAt mean lft T Le it Way lim fullP zeroP allH bst wst)
/-! ### who falls short, losses -/
def shortL (b : Bk) (P : List Int) : List Int := (allH b).filter fun h => decide (sumAt P (on b h) < owe b h)
def p_short : PD := fun ds K => ∃ (b : Bk) (P : List Int), ds = [bkD b, .lst (P.map D.int)] ∧ BkW b ∧ P.length = b.m ∧ K (.lst ((shortL b P).map D.int))
theorem all_get {b : Bk} {k : Nat} (h : k < b.n) : (allH b)[k]? = some (k : Int) := by
  unfold Mx.allH
  rw [List.getElem?_map, List.getElem?_range h]; rfl
theorem all_len (b : Bk) : (allH b).length = b.n := by unfold Mx.allH; simp
/-! short -/
def m_short {ω : Type} (C : Cn ω) : SM C :=
  (seqM (ownM 2 (lstM nilA))
  (seqM (forM (.nm 3) (iterR1 (consA (callM lenF (consA (binM ixF (nameM 0) (constM (.int 0))) nilA)) nilA)) (ifM (testM (binM ltF (callM sumF (consA (lcM (.nm 4) (iterL (c_claims_on (consA (nameM 0) (consA (nameM 3) nilA)))) yesM (binM ixF (nameM 1) (nameM 4)) [4]) nilA)) (c_all_owed (consA (nameM 0) (consA (nameM 3) nilA))))) (appM 2 (nameM 3)) nextM))
  (frzM 2 (retM (nameM 2)))))
abbrev c_short {ω : Type} {C : Cn ω} (ts : AM C) : EM C := callD 2 [] p_short ts

theorem r_short {ω : Type} {C : Cn ω} (ds : List D) (Kp : D → Prop) (hl : ds.length = 2) (hp : p_short ds Kp) (w : ω) : m_short C ⟨fun _ _ => Kp .non, fun d _ => Kp d, fun _ _ => False, fun _ _ => False⟩ (startG 5 [] ds) w := by
  obtain ⟨b, P, rfl, hb, hP, hk⟩ := hp
  rw [st_bk]
  have hm := hb.m24
  have hn := hb.n8
  have ln : (b.cash.map D.int).length = b.n := List.length_map _
  refine ⟨(by show 0 ≤ 1000; decide), rfl, rfl, rfl, ?_⟩
  refine ⟨_, rfl, _, _, rfl, by rw [ln]; omega, by rw [ln]; omega, rfl, ?_⟩
  refine loop_by (fun k Γ w => k ≤ b.n ∧ ∃ s3, Γ = [.val true (bkD b), .val false (.lst (P.map D.int)), .own (.lst ((((allH b).take k).filter fun h => decide (sumAt P (on b h) < owe b h)).map D.int)), s3, .no]) (fun k d Γ w N hd hI hN => ?_) (fun Γ w hI => ?_) ⟨Nat.zero_le _, _, rfl⟩
  · obtain ⟨hk1, s3, rfl⟩ := hI
    obtain ⟨rfl, hk2⟩ := rng_get hd
    rw [ln] at hk2
    have hkn : k < b.n := by omega
    rw [Int.zero_add]
    have hol := Mx.on_len b (k : Int)
    have ht : (allH b).take (k + 1) = (allH b).take k ++ [(k : Int)] := by rw [List.take_add_one, all_get hkn]; rfl
    have hfl : (((allH b).take k).filter fun h => decide (sumAt P (on b h) < owe b h)).length ≤ k := Nat.le_trans (List.length_filter_le _ _) (by rw [List.length_take]; omega)
    refine ⟨rfl, rfl, b, (k : Int), rfl, by omega, _, rfl, rfl, ?_⟩
    refine lc_map (payAt P) (fun d hd => ?_) (by rw [List.length_map]; omega) (fun d hd N hN => ?_) ?_
    · obtain ⟨i, hi, rfl⟩ := mem_ints hd; rfl
    · obtain ⟨i, hi, rfl⟩ := mem_ints hd
      obtain ⟨g0, g1, _⟩ := Mx.on_mem.mp hi
      exact ⟨_, at_nat g0 (by omega), hN _ rfl⟩
    rw [ints_map (fun i => at' P i.toNat) _ _ fun i => rfl]
    refine ⟨_, _, rfl, rfl, rfl, b, (k : Int), rfl, by omega, _, rfl, ?_⟩
    refine ite2 (fun q => ?_) (fun q => ?_)
    · exact ⟨_, rfl, by rw [List.length_map]; omega, rfl, rfl, hN _ _ ⟨hkn, .val true (.int (k : Int)), by rw [ht, List.filter_append, List.filter_cons_of_pos (p := fun h => decide (sumAt P (on b h) < owe b h)) q, List.map_append]; rfl⟩⟩
    · exact hN _ _ ⟨hkn, .val true (.int (k : Int)), by rw [ht, List.filter_append, List.filter_cons_of_neg (p := fun h => decide (sumAt P (on b h) < owe b h)) q, List.filter_nil, List.append_nil]; rfl⟩
  · obtain ⟨_, s3, rfl⟩ := hI
    rw [rng_len, ln, show (((b.n : Nat) : Int) - 0).toNat = (allH b).length by rw [all_len]; omega, List.take_length]
    exact ⟨rfl, rfl, hk⟩
--END short
def p_failing : PD := fun ds K => ∃ b : Bk, ds = [bkD b] ∧ BkOk b ∧ K (.lst ((shortL b (bst b)).map D.int))
/-! failing -/
def m_failing {ω : Type} (C : Cn ω) : SM C :=
  (seqM (dropM (c_need_book (consA (nameM 0) nilA)))
  (retM (c_short (consA (nameM 0) (consA (c_greatest (consA (nameM 0) nilA)) nilA)))))
abbrev c_failing {ω : Type} {C : Cn ω} (ts : AM C) : EM C := callD 1 [] p_failing ts

theorem r_failing {ω : Type} {C : Cn ω} (ds : List D) (Kp : D → Prop) (hl : ds.length = 1) (hp : p_failing ds Kp) (w : ω) : m_failing C ⟨fun _ _ => Kp .non, fun d _ => Kp d, fun _ _ => False, fun _ _ => False⟩ (startG 1 [] ds) w := by
  obtain ⟨b, rfl, hb, hk⟩ := hp
  rw [st_bk]
  exact ⟨rfl, rfl, b, rfl, hb, rfl, rfl, b, rfl, hb, rfl, rfl, b, bst b, rfl, hb, (bst_ok hb.toBkW).len, rfl, rfl, hk⟩
--END failing
def lossL (b : Bk) (P : List Int) : List Int := (allH b).map fun h => ((ofc b h).map fun i => (b.at i).a - at' P i.toNat).sum
def lackG (b : Bk) (P : List Int) : D → D | .int i => .int ((b.at i).a - at' P i.toNat) | d => d
def p_losses : PD := fun ds K => ∃ b : Bk, ds = [bkD b] ∧ BkOk b ∧ K (.lst ((lossL b (bst b)).map D.int))
/-! losses -/
def m_losses {ω : Type} (C : Cn ω) : SM C :=
  (seqM (dropM (c_need_book (consA (nameM 0) nilA)))
  (seqM (asgM (.nm 1) (c_greatest (consA (nameM 0) nilA)))
  (seqM (ownM 2 (lstM nilA))
  (seqM (forM (.nm 3) (iterR1 (consA (callM lenF (consA (binM ixF (nameM 0) (constM (.int 0))) nilA)) nilA)) (appM 2 (callM sumF (consA (lcM (.nm 4) (iterL (c_claims_of (consA (nameM 0) (consA (nameM 3) nilA)))) yesM (binM subF (binM ixF (binM ixF (binM ixF (nameM 0) (constM (.int 1))) (nameM 4)) (constM (.int 2))) (binM ixF (nameM 1) (nameM 4))) [4]) nilA))))
  (frzM 2 (retM (nameM 2)))))))
abbrev c_losses {ω : Type} {C : Cn ω} (ts : AM C) : EM C := callD 1 [] p_losses ts

theorem r_losses {ω : Type} {C : Cn ω} (ds : List D) (Kp : D → Prop) (hl : ds.length = 1) (hp : p_losses ds Kp) (w : ω) : m_losses C ⟨fun _ _ => Kp .non, fun d _ => Kp d, fun _ _ => False, fun _ _ => False⟩ (startG 5 [] ds) w := by
  obtain ⟨b, rfl, hb, hk⟩ := hp
  rw [st_bk]
  have hm := hb.m24
  have hn := hb.n8
  have ln : (b.cash.map D.int).length = b.n := List.length_map _
  have lB := (bst_ok hb.toBkW).len
  have ll : (lossL b (bst b)).length = b.n := by unfold lossL; rw [List.length_map, all_len]
  refine ⟨rfl, rfl, b, rfl, hb, rfl, rfl, b, rfl, hb, rfl, (by show 0 ≤ 1000; decide), rfl, rfl, rfl, ?_⟩
  refine ⟨_, rfl, _, _, rfl, by rw [ln]; omega, by rw [ln]; omega, rfl, ?_⟩
  refine loop_by (fun k Γ w => k ≤ b.n ∧ ∃ s3, Γ = [.val true (bkD b), .val true (.lst ((bst b).map D.int)), .own (.lst (((lossL b (bst b)).take k).map D.int)), s3, .no]) (fun k d Γ w N hd hI hN => ?_) (fun Γ w hI => ?_) ⟨Nat.zero_le _, _, rfl⟩
  · obtain ⟨hk1, s3, rfl⟩ := hI
    obtain ⟨rfl, hk2⟩ := rng_get hd
    rw [ln] at hk2
    have hkn : k < b.n := by omega
    rw [Int.zero_add]
    have hol : (ofc b (k : Int)).length ≤ b.m := Mx.pick_len
    refine ⟨_, rfl, by rw [List.length_map, List.length_take]; omega, rfl, rfl, b, (k : Int), rfl, by omega, _, rfl, rfl, ?_⟩
    refine lc_map (lackG b (bst b)) (fun d hd => ?_) (by rw [List.length_map]; omega) (fun d hd N hN => ?_) ?_
    · obtain ⟨i, hi, rfl⟩ := mem_ints hd; rfl
    · obtain ⟨i, hi, rfl⟩ := mem_ints hd
      obtain ⟨g0, g1, _⟩ := Mx.ofc_mem.mp hi
      exact ⟨_, rfl, _, at_cl g0 g1, _, rfl, _, at_nat g0 (by omega), hN _ rfl⟩
    rw [ints_map (fun i => (b.at i).a - at' (bst b) i.toNat) _ _ fun i => rfl]
    have e : (lossL b (bst b))[k]? = some ((ofc b (k : Int)).map fun i => (b.at i).a - at' (bst b) i.toNat).sum := by
      unfold lossL
      rw [List.getElem?_map, all_get hkn]; rfl
    exact ⟨_, _, rfl, rfl, rfl, hN _ _ ⟨hkn, .val true (.int (k : Int)), by rw [List.take_add_one, e, List.map_append]; rfl⟩⟩
  · obtain ⟨_, s3, rfl⟩ := hI
    rw [rng_len, ln, show (((b.n : Nat) : Int) - 0).toNat = (lossL b (bst b)).length by omega, List.take_length]
    exact ⟨rfl, rfl, hk⟩
--END losses
end VS

/-! ### sums claim by claim -/
namespace Mx
/-- the sum of f over the first k claims -/
def upto (f : Nat → Int) : Nat → Int
  | 0 => 0
  | k + 1 => upto f k + f k
theorem upto_pick {b : Bk} (p : Cl → Bool) (f : Int → Int) : upto (fun i => if p (b.at i) = true then f i else 0) b.m = ((pick p 0 b.cl).map f).sum := by
  have key : ∀ (xs ys : List Cl), b.cl = ys ++ xs → upto (fun i => if p (b.at i) = true then f i else 0) ys.length + ((pick p ys.length xs).map f).sum = upto (fun i => if p (b.at i) = true then f i else 0) b.m := by
    intro xs
    induction xs with
    | nil =>
      intro ys e
      rw [List.append_nil] at e
      unfold Bk.m
      rw [e]; simp [pick]
    | cons x xs ih =>
      intro ys e
      have h := ih (ys ++ [x]) (by rw [e]; simp)
      rw [← h]
      have ex : b.at (ys.length : Int) = x := by
        unfold Bk.at
        rw [e, Int.toNat_natCast, List.getD_eq_getElem?_getD, List.getElem?_append_right (Nat.le_refl _)]
        simp
      have el : (ys ++ [x]).length = ys.length + 1 := by simp
      rw [el]
      show _ + ((if p x = true then (ys.length : Int) :: pick p ((ys.length : Int) + 1) xs else pick p ((ys.length : Int) + 1) xs).map f).sum = upto _ ys.length + (if p (b.at (ys.length : Int)) = true then f ys.length else 0) + _
      rw [ex]
      have ec : ((ys.length + 1 : Nat) : Int) = (ys.length : Int) + 1 := by omega
      rw [ec]
      by_cases hx : p x = true
      · rw [if_pos hx, if_pos hx, List.map_cons, List.sum_cons]; omega
      · rw [if_neg hx, if_neg hx]; omega
  have := key b.cl [] rfl
  simp only [List.length_nil] at this
  rw [← this]
  simp [upto]
end Mx

/-! ### no house pays more than it has -/
namespace Mx
theorem zip_sum : ∀ {g p : List Int}, p.length = g.length → ((g.zip p).map (·.2)).sum = p.sum
  | [], [], _ => rfl
  | _ :: g, y :: p, h => by
    rw [List.zip_cons_cons, List.map_cons, List.sum_cons, List.sum_cons, zip_sum (by simpa using h)]
  | [], _ :: _, h => by cases h
  | _ :: _, [], h => by cases h
theorem payG_sum {b : Bk} : ∀ {gs : List (List Int)} {m : Int}, 0 ≤ m → (∀ g ∈ gs, Amt b g) → ((payG b gs m).map (·.2)).sum ≤ m
  | [], m, h0, _ => h0
  | g :: gs, m, h0, hA => by
    have hg := hA g (by simp)
    have l1 := sh_len' hg h0
    have ih := payG_sum (gs := gs) (sh_left hg h0).1 fun g' hg' => hA g' (List.mem_cons_of_mem _ hg')
    show ((g.zip (sh (amts b g) m) ++ payG b gs (m - (sh (amts b g) m).sum)).map (·.2)).sum ≤ m
    rw [List.map_append, List.sum_append, zip_sum l1]
    omega
theorem sum_perm {l k : List Int} (h : l.Perm k) : l.sum = k.sum := by
  induction h with
  | nil => rfl
  | cons x _ ih => rw [List.sum_cons, List.sum_cons, ih]
  | swap x y l => simp only [List.sum_cons]; omega
  | trans _ _ h1 h2 => exact h1.trans h2
theorem coins_sum {b : Bk} (hb : BkW b) (h : Int) {m : Int} (h0 : 0 ≤ m) : ((on b h).map (coin b h m)).sum ≤ m := by
  have h1 := payG_sum h0 (amt_grps hb h)
  have h2 := payP_keys hb h h0
  have e : (payP b h m).map (·.2) = ((payP b h m).map (·.1)).map (coin b h m) := by
    rw [List.map_map]
    refine List.map_congr_left fun z hz => ?_
    show z.2 = coin b h m z.1
    unfold coin
    rw [lookup_in (payP_nodup hb h h0) hz]; rfl
  have h3 := sum_perm (h2.map (coin b h m))
  rw [← h3, ← e]; exact h1
theorem paid_le {b : Bk} (hb : BkW b) {P : List Int} (hP : POk b P) (hfix : T b (allH b) P = P) {h : Int} (h0 : 0 ≤ h) (h1 : h < b.n) : sumAt P (on b h) ≤ mean b h P := by
  have hm := mean_nn hb h hP.nn
  have e : sumAt P (on b h) = ((on b h).map (coin b h (mean b h P))).sum := by
    unfold sumAt
    congr 1
    refine List.map_congr_left fun i hi => ?_
    obtain ⟨i0, i1, i2⟩ := on_mem.mp hi
    have hit : i.toNat < b.m := by omega
    have hc : ((i.toNat : Nat) : Int) = i := by omega
    have q := T_at (b := b) (hs := allH b) (P := P) hit
    rw [hfix, hc, i2, if_pos (by unfold allH; exact List.mem_map.mpr ⟨h.toNat, List.mem_range.mpr (by omega), by omega⟩)] at q
    exact q
  rw [e]
  exact coins_sum hb h hm
theorem sum_zero : ∀ {l : List Int}, (∀ x ∈ l, 0 ≤ x) → l.sum = 0 → ∀ x ∈ l, x = 0
  | [], _, _, x, hx => by cases hx
  | y :: l, h, hs, x, hx => by
    rw [List.sum_cons] at hs
    have h1 := h y (by simp)
    have h2 := sum_nn fun z hz => h z (List.mem_cons_of_mem _ hz)
    rcases List.mem_cons.mp hx with rfl | hx
    · omega
    · exact sum_zero (fun z hz => h z (List.mem_cons_of_mem _ hz)) (by omega) x hx
theorem zero_sum : ∀ {l : List Int}, (∀ x ∈ l, x = 0) → l.sum = 0
  | [], _ => rfl
  | y :: l, h => by
    rw [List.sum_cons, h y (by simp), zero_sum fun z hz => h z (List.mem_cons_of_mem _ hz)]; rfl
end Mx

/-! ### the greatest, the least; who falls -/
namespace Mx
theorem it_mono {b : Bk} (hb : BkW b) (hs : List Int) {P Q : List Int} (hP : POk b P) (hQ : POk b Q) (h : Le P Q) : ∀ n, Le (it b hs P n) (it b hs Q n)
  | 0 => h
  | n + 1 => T_mono hb hs (it_ok hb hs hP n) (it_mono hb hs hP hQ h n)
theorem it_still {b : Bk} {hs P : List Int} (h : T b hs P = P) : ∀ n, it b hs P n = P
  | 0 => rfl
  | n + 1 => by show T b hs (it b hs P n) = P; rw [it_still h n, h]
theorem Bst_ok {b : Bk} (hb : BkW b) : POk b (bst b) := lim_ok hb _ (full_ok hb)
theorem Wst_ok {b : Bk} (hb : BkW b) : POk b (wst b) := lim_ok hb _ (zero_ok hb)
theorem Bst_fix {b : Bk} (hb : BkW b) : T b (allH b) (bst b) = bst b := lim_fix hb (full_ok hb) (full_way hb _)
theorem Wst_fix {b : Bk} (hb : BkW b) : T b (allH b) (wst b) = wst b := lim_fix hb (zero_ok hb) (zero_way hb _)
theorem bst_max {b : Bk} (hb : BkW b) {P : List Int} (hP : POk b P) (h : T b (allH b) P = P) : Le P (bst b) := by
  have := it_mono hb (allH b) hP (full_ok hb) (le_full hP) 24000
  rw [it_still h] at this; exact this
theorem wst_min {b : Bk} (hb : BkW b) {P : List Int} (hP : POk b P) (h : T b (allH b) P = P) : Le (wst b) P := by
  have := it_mono hb (allH b) (zero_ok hb) hP (zero_le hP) 24000
  rw [it_still h] at this; exact this
theorem le_anti {b : Bk} {P Q : List Int} (hP : POk b P) (hQ : POk b Q) (h : Le P Q) (h' : Le Q P) : P = Q :=
  ext_at _ _ (by rw [hP.len, hQ.len]) fun i _ => Int.le_antisymm (h i) (h' i)
theorem Mem_all {b : Bk} {h : Int} : h ∈ allH b ↔ 0 ≤ h ∧ h < b.n := by
  unfold allH
  rw [List.mem_map]
  constructor
  · rintro ⟨k, hk, rfl⟩; rw [List.mem_range] at hk; omega
  · intro h'; exact ⟨h.toNat, List.mem_range.mpr (by omega), by omega⟩
/-! with means enough all is paid -/
theorem sumL_append (l k : List Int) : (l ++ k).sum = l.sum + k.sum := List.sum_append
theorem payG_full {b : Bk} : ∀ {gs : List (List Int)} {m : Int}, (∀ g ∈ gs, Amt b g) → (gs.map fun g => (amts b g).sum).sum ≤ m → payG b gs m = (gs.map fun g => g.zip (amts b g)).flatten
  | [], _, _, _ => rfl
  | g :: gs, m, hA, hm => by
    have hg := hA g (by simp)
    have hgs := fun g' hg' => hA g' (List.mem_cons_of_mem _ hg')
    rw [List.map_cons, List.sum_cons] at hm
    have h1 : 0 ≤ (gs.map fun g => (amts b g).sum).sum := sum_nn fun x hx => by
      obtain ⟨g', hg', rfl⟩ := List.mem_map.mp hx
      exact amts_sum (hgs g' hg')
    have h2 := amts_sum hg
    have e : sh (amts b g) m = amts b g := sh_all hg.pos (by omega) (by omega)
    show g.zip (sh (amts b g) m) ++ payG b gs (m - (sh (amts b g) m).sum) = _
    rw [e, payG_full hgs (by omega)]
    rfl
theorem sum_flatten : ∀ gs : List (List Int), gs.flatten.sum = (gs.map List.sum).sum
  | [] => rfl
  | g :: gs => by rw [List.flatten_cons, List.sum_append, List.map_cons, List.sum_cons, sum_flatten gs]
theorem owe_grps {b : Bk} (hb : BkW b) (h : Int) : ((ranks9.map (grp b h)).map fun g => (amts b g).sum).sum = owe b h := by
  have h1 := sum_perm ((keys_perm hb h).map fun i => (b.at i).a)
  rw [show ((on b h).map fun i => (b.at i).a).sum = owe b h from rfl] at h1
  rw [← h1, List.map_flatten, sum_flatten, List.map_map]
  rfl
theorem zip_mem {b : Bk} {z : Int × Int} : ∀ {g : List Int}, z ∈ g.zip (amts b g) → z.2 = (b.at z.1).a
  | [], h => by cases h
  | x :: g, h => by
    rcases List.mem_cons.mp (show z ∈ (x, (b.at x).a) :: g.zip (amts b g) from h) with rfl | h
    · rfl
    · exact zip_mem h
theorem owe_nn {b : Bk} (hb : BkW b) (h : Int) : 0 ≤ owe b h := amts_sum (amt_on hb (h := h) fun _ z => z)
theorem coin_full {b : Bk} (hb : BkW b) (h : Int) {m i : Int} (hm : owe b h ≤ m) (hi : i ∈ on b h) : coin b h m i = (b.at i).a := by
  have h0 : 0 ≤ m := Int.le_trans (owe_nn hb h) hm
  have h1 := coin_of hb h h0 hi
  have e : payP b h m = ((ranks9.map (grp b h)).map fun g => g.zip (amts b g)).flatten := payG_full (amt_grps hb h) (by rw [owe_grps hb h]; exact hm)
  have hz : (i, coin b h m i) ∈ payP b h m := by
    have : ∀ {l : List (Int × Int)} {v : Int}, l.lookup i = some v → (i, v) ∈ l := fun {l v} => by
      induction l with
      | nil => intro h; cases h
      | cons z l ih =>
        obtain ⟨k, u⟩ := z
        intro h
        rw [List.lookup_cons] at h
        cases q : i == k with
        | true =>
          rw [q] at h
          have : i = k := by simpa using q
          cases h; subst this; simp
        | false => rw [q] at h; exact List.mem_cons_of_mem _ (ih h)
    exact this h1
  rw [e] at hz
  obtain ⟨l, hl, hz⟩ := List.mem_flatten.mp hz
  obtain ⟨g, _, rfl⟩ := List.mem_map.mp hl
  exact zip_mem hz
theorem T_all_at {b : Bk} (hb : BkW b) {P : List Int} {i : Nat} (hi : i < b.m) : at' (T b (allH b) P) i = coin b (b.at i).d (mean b (b.at i).d P) i := by
  obtain ⟨d0, d1, _⟩ := hb.at (i := (i : Int)) (by omega) (by omega)
  rw [T_at hi, if_pos (Mem_all.mpr ⟨d0, d1⟩)]
theorem fix_at {b : Bk} (hb : BkW b) {P : List Int} (hf : T b (allH b) P = P) {i : Int} {h : Int} (hi : i ∈ on b h) : at' P i.toNat = coin b h (mean b h P) i := by
  obtain ⟨i0, i1, i2⟩ := on_mem.mp hi
  have := T_all_at hb (P := P) (i := i.toNat) (by omega)
  rw [hf, show ((i.toNat : Nat) : Int) = i by omega, i2] at this
  exact this
/-! who falls short by a clearing -/
theorem full_paid {b : Bk} (hb : BkW b) {P : List Int} (hf : T b (allH b) P = P) {h : Int} (hm : owe b h ≤ mean b h P) : sumAt P (on b h) = owe b h := by
  unfold sumAt owe
  congr 1
  refine List.map_congr_left fun i hi => ?_
  rw [fix_at hb hf hi, coin_full hb h hm hi]
theorem short_iff {b : Bk} (hb : BkW b) {P : List Int} (hP : POk b P) (hf : T b (allH b) P = P) {h : Int} (hh : h ∈ allH b) : sumAt P (on b h) < owe b h ↔ mean b h P < owe b h := by
  obtain ⟨h0, h1⟩ := Mem_all.mp hh
  constructor
  · intro hs
    refine Int.not_le.mp fun z => ?_
    rw [full_paid hb hf z] at hs
    omega
  · intro hm
    have := paid_le hb hP hf h0 h1
    omega
/-! steps of some houses -/
theorem T_congr {b : Bk} {hs hs' : List Int} (h : ∀ x, x ∈ hs ↔ x ∈ hs') (P : List Int) : T b hs P = T b hs' P := by
  unfold T
  refine List.map_congr_left fun i _ => ?_
  by_cases q : (b.at (i : Int)).d ∈ hs
  · rw [if_pos q, if_pos ((h _).mp q)]
  · rw [if_neg q, if_neg fun z => q ((h _).mpr z)]
theorem it_congr {b : Bk} {hs hs' : List Int} (h : ∀ x, x ∈ hs ↔ x ∈ hs') (P : List Int) : ∀ n, it b hs P n = it b hs' P n
  | 0 => rfl
  | n + 1 => by show T b hs (it b hs P n) = T b hs' (it b hs' P n); rw [it_congr h P n, T_congr h]
theorem lim_congr {b : Bk} {hs hs' : List Int} (h : ∀ x, x ∈ hs ↔ x ∈ hs') (P : List Int) : lim b hs P = lim b hs' P := it_congr h P _
theorem it_out {b : Bk} {hs P : List Int} (hP : P.length = b.m) {i : Nat} (hi : i < b.m) (hd : (b.at i).d ∉ hs) : ∀ n, at' (it b hs P n) i = at' P i
  | 0 => rfl
  | n + 1 => by
    show at' (T b hs (it b hs P n)) i = _
    rw [T_at hi, if_neg hd, it_out hP hi hd n]
/-- where the houses F have fallen -/
def flim (b : Bk) (F : List Int) : List Int := lim b F (fullP b)
theorem flim_ok {b : Bk} (hb : BkW b) (F : List Int) : POk b (flim b F) := lim_ok hb F (full_ok hb)
theorem flim_congr {b : Bk} {F F' : List Int} (h : ∀ x, x ∈ F ↔ x ∈ F') : flim b F = flim b F' := lim_congr h _
theorem it_anti {b : Bk} (hb : BkW b) {F F' : List Int} (h : ∀ x ∈ F, x ∈ F') : ∀ n, Le (it b F' (fullP b) n) (it b F (fullP b) n)
  | 0 => fun _ => Int.le_refl _
  | n + 1 => fun i => by
    have ih := it_anti hb h n
    have k1 := it_ok hb F' (full_ok hb) n
    have k2 := it_ok hb F (full_ok hb) n
    show at' (T b F' _) i ≤ at' (T b F _) i
    by_cases hi : i < b.m
    · rw [T_at hi, T_at hi]
      have hon : (i : Int) ∈ on b (b.at i).d := on_mem.mpr ⟨by omega, by omega, rfl⟩
      by_cases q : (b.at (i : Int)).d ∈ F
      · rw [if_pos q, if_pos (h _ q)]
        exact coin_mono hb _ (mean_nn hb _ k1.nn) (mean_mono _ ih) _
      · rw [if_neg q, it_out (full_ok hb).len hi q n, full_at hi]
        split
        · exact (coin_in hb _ (mean_nn hb _ k1.nn) hon).2
        · exact k1.hi i hi
    · rw [at_out (by rw [T_len]; omega), at_out (by rw [T_len]; omega)]; exact Int.le_refl _
theorem flim_anti {b : Bk} (hb : BkW b) {F F' : List Int} (h : ∀ x ∈ F, x ∈ F') : Le (flim b F') (flim b F) := it_anti hb h _
theorem bst_flim (b : Bk) : bst b = flim b (allH b) := rfl
/-- nobody else falls -/
def Done (b : Bk) (F : List Int) : Prop := ∀ h ∈ allH b, h ∉ F → owe b h ≤ mean b h (flim b F)
theorem done_bst {b : Bk} (hb : BkW b) {F : List Int} (hF : ∀ h ∈ F, h ∈ allH b) (hd : Done b F) : flim b F = bst b := by
  have ok := flim_ok hb F
  have fx : T b F (flim b F) = flim b F := lim_fix hb (full_ok hb) (full_way hb F)
  have fa : T b (allH b) (flim b F) = flim b F := by
    refine ext_at _ _ (by rw [T_len, ok.len]) fun i hi => ?_
    rw [T_len] at hi
    rw [T_all_at hb hi]
    obtain ⟨d0, d1, _⟩ := hb.at (i := (i : Int)) (by omega) (by omega)
    have hon : (i : Int) ∈ on b (b.at i).d := on_mem.mpr ⟨by omega, by omega, rfl⟩
    by_cases q : (b.at (i : Int)).d ∈ F
    · have := T_at (b := b) (hs := F) (P := flim b F) hi
      rw [fx, if_pos q] at this
      exact this.symm
    · have e : at' (flim b F) i = (b.at i).a := by
        show at' (it b F (fullP b) 24000) i = _
        rw [it_out (full_ok hb).len hi q, full_at hi]
      rw [e, coin_full hb _ (hd _ (Mem_all.mpr ⟨d0, d1⟩) q) hon]
  exact le_anti ok (Bst_ok hb) (bst_max hb ok fa) (flim_anti hb hF)
/-- all of these fall short by the best clearing -/
def Fell (b : Bk) (F : List Int) : Prop := ∀ h ∈ F, h ∈ allH b ∧ mean b h (bst b) < owe b h
theorem Fell.more {b : Bk} (hb : BkW b) {F w : List Int} (hF : Fell b F) (hw : ∀ h ∈ w, h ∈ allH b ∧ mean b h (flim b F) < owe b h) : Fell b (F ++ w) := fun h hh => by
  rcases List.mem_append.mp hh with hh | hh
  · exact hF h hh
  · obtain ⟨h1, h2⟩ := hw h hh
    refine ⟨h1, Int.lt_of_le_of_lt (mean_mono h ?_) h2⟩
    exact flim_anti hb fun x hx => (hF x hx).1
theorem fell_done {b : Bk} (hb : BkW b) {F : List Int} (hF : Fell b F) (hd : Done b F) {h : Int} (hh : h ∈ allH b) : h ∈ F ↔ mean b h (bst b) < owe b h := by
  constructor
  · exact fun z => (hF h z).2
  · intro hm
    by_cases q : h ∈ F
    · exact q
    · have := hd h hh q
      rw [done_bst hb (fun x hx => (hF x hx).1) hd] at this
      omega
/-! waves -/
def wave (b : Bk) (F : List Int) : List Int := (allH b).filter fun h => decide (h ∉ F ∧ mean b h (flim b F) < owe b h)
theorem wave_mem {b : Bk} {F : List Int} {h : Int} : h ∈ wave b F ↔ h ∈ allH b ∧ h ∉ F ∧ mean b h (flim b F) < owe b h := by
  unfold wave; rw [List.mem_filter]; simp
theorem wave_congr {b : Bk} {F F' : List Int} (h : ∀ x, x ∈ F ↔ x ∈ F') : wave b F = wave b F' := by
  unfold wave
  rw [flim_congr h]
  refine List.filter_congr fun x _ => ?_
  have := h x
  simp [this]
theorem wave_done {b : Bk} {F : List Int} (h : wave b F = []) : Done b F := fun x hx hn => Int.not_lt.mp fun z => by
  have : x ∈ wave b F := wave_mem.mpr ⟨hx, hn, z⟩
  rw [h] at this; cases this
inductive Wv (b : Bk) : List Int → List (List Int) → Prop
  | nil {F} : wave b F = [] → Wv b F []
  | cons {F l} : wave b F ≠ [] → Wv b (F ++ wave b F) l → Wv b F (wave b F :: l)
theorem Wv.uniq {b : Bk} {F : List Int} {l l' : List (List Int)} (h : Wv b F l) (h' : Wv b F l') : l = l' := by
  induction h generalizing l' with
  | nil e => cases h' with
    | nil _ => rfl
    | cons n _ => exact absurd e n
  | cons n _ ih => cases h' with
    | nil e => exact absurd e n
    | cons _ q => rw [ih q]
theorem all_up (b : Bk) : (allH b).Pairwise (· < ·) := by
  unfold allH
  rw [List.pairwise_map]
  refine List.pairwise_lt_range.imp fun h => ?_
  omega
theorem wave_up (b : Bk) (F : List Int) : (wave b F).Pairwise (· < ·) := (all_up b).filter _
theorem wave_nd {b : Bk} {F : List Int} (h : F.Nodup) : (F ++ wave b F).Nodup := List.nodup_append.mpr ⟨h, nodup_up (wave_up b F), fun x hx y hy e => (wave_mem.mp hy).2.1 (e ▸ hx)⟩
theorem nd_len : ∀ {F L : List Int}, F.Nodup → (∀ x ∈ F, x ∈ L) → F.length ≤ L.length
  | [], _, _, _ => Nat.zero_le _
  | x :: F, L, hn, h => by
    obtain ⟨n1, n2⟩ := List.nodup_cons.mp hn
    have hx := h x (by simp)
    have ih := nd_len (F := F) (L := L.erase x) n2 fun y hy => (List.mem_erase_of_ne fun (e : y = x) => n1 (by rw [← e]; exact hy)).mpr (h y (List.mem_cons_of_mem _ hy))
    have h1 := List.length_erase_of_mem hx
    have h2 := List.length_pos_of_mem hx
    rw [List.length_cons]; omega
theorem sub_len {F : List Int} {b : Bk} (hn : F.Nodup) (hF : ∀ h ∈ F, h ∈ allH b) : F.length ≤ b.n := by
  have h1 : (allH b).length = b.n := by unfold allH; simp
  rw [← h1]
  exact nd_len hn hF
end Mx

/-! ### other coins -/
namespace Mx
def Bk.wc (b : Bk) (c : List Int) : Bk := ⟨c, b.cl⟩
structure CLe (b : Bk) (c : List Int) : Prop where
  len : c.length = b.cash.length
  le : ∀ i : Nat, at' b.cash i ≤ at' c i
theorem pok_wc {b : Bk} {c P : List Int} (h : POk b P) : POk (b.wc c) P := ⟨h.len, h.lo, h.hi⟩
theorem mean_wc {b : Bk} {c : List Int} (h : CLe b c) (x : Int) {P Q : List Int} (hPQ : Le P Q) : mean b x P ≤ mean (b.wc c) x Q := by
  have h1 := sumAt_mono hPQ (ofc b x)
  have h2 := h.le x.toNat
  show at' b.cash x.toNat + sumAt P (ofc b x) ≤ at' c x.toNat + sumAt Q (ofc b x)
  omega
theorem T_wc {b : Bk} (hb : BkW b) {c : List Int} (h : CLe b c) (hs : List Int) {P Q : List Int} (hP : POk b P) (hPQ : Le P Q) : Le (T b hs P) (T (b.wc c) hs Q) := fun i => by
  by_cases hi : i < b.m
  · have e1 := T_at (b := b) (hs := hs) (P := P) hi
    have e2 := T_at (b := b.wc c) (hs := hs) (P := Q) (i := i) hi
    rw [e1, e2]
    show (if (b.at i).d ∈ hs then _ else _) ≤ (if (b.at i).d ∈ hs then coin b (b.at i).d (mean (b.wc c) (b.at i).d Q) i else at' Q i)
    split
    · exact coin_mono hb _ (mean_nn hb _ hP.nn) (mean_wc h _ hPQ) _
    · exact hPQ i
  · rw [at_out (by rw [T_len]; omega), at_out (by rw [T_len]; exact Nat.not_lt.mp hi)]; exact Int.le_refl _
theorem it_wc {b : Bk} (hb : BkW b) {c : List Int} (h : CLe b c) (hs : List Int) {P : List Int} (hP : POk b P) : ∀ n, Le (it b hs P n) (it (b.wc c) hs P n)
  | 0 => fun _ => Int.le_refl _
  | n + 1 => T_wc hb h hs (it_ok hb hs hP n) (it_wc hb h hs hP n)
theorem allH_wc {b : Bk} {c : List Int} (h : c.length = b.cash.length) : allH (b.wc c) = allH b := by
  unfold allH Bk.n Bk.wc
  rw [h]
theorem bst_wc {b : Bk} (hb : BkW b) {c : List Int} (h : CLe b c) : Le (bst b) (bst (b.wc c)) := by
  unfold bst lim
  rw [allH_wc h.len]
  exact it_wc hb h _ (full_ok hb) _
theorem wst_wc {b : Bk} (hb : BkW b) {c : List Int} (h : CLe b c) : Le (wst b) (wst (b.wc c)) := by
  unfold wst lim
  rw [allH_wc h.len]
  exact it_wc hb h _ (zero_ok hb) _
/-! ### no coin comes or goes -/
theorem sum_map_add (f g : Int → Int) : ∀ l : List Int, (l.map fun x => f x + g x).sum = (l.map f).sum + (l.map g).sum
  | [] => rfl
  | x :: l => by simp only [List.map_cons, List.sum_cons]; rw [sum_map_add f g l]; omega
theorem sum_map_sub (f g : Int → Int) : ∀ l : List Int, (l.map fun x => f x - g x).sum = (l.map f).sum - (l.map g).sum
  | [] => rfl
  | x :: l => by simp only [List.map_cons, List.sum_cons]; rw [sum_map_sub f g l]; omega
theorem sum_one (n : Nat) (v : Int) (j : Int) : ((List.range n).map fun (k : Nat) => if (j = (k : Int)) then v else 0).sum = if 0 ≤ j ∧ j < n then v else 0 := by
  induction n with
  | zero => simp; omega
  | succ n ih =>
    rw [List.range_succ, List.map_append, List.sum_append, ih]
    simp only [List.map_cons, List.map_nil, List.sum_cons, List.sum_nil]
    by_cases h1 : j = (n : Int)
    · rw [if_pos h1, if_neg (by omega), if_pos (by omega)]; omega
    · rw [if_neg h1]
      by_cases h2 : 0 ≤ j ∧ j < n
      · rw [if_pos h2, if_pos (by omega)]; omega
      · rw [if_neg h2, if_neg (by omega)]; rfl
theorem upto_sum_swap (n : Nat) (F : Nat → Nat → Int) : ∀ m, ((List.range n).map fun (h : Nat) => upto (F h) m).sum = upto (fun i => ((List.range n).map fun (h : Nat) => F h i).sum) m
  | 0 => by
    show ((List.range n).map fun (_ : Nat) => (0 : Int)).sum = 0
    exact zero_sum fun x hx => by obtain ⟨_, _, rfl⟩ := List.mem_map.mp hx; rfl
  | m + 1 => by
    show ((List.range n).map fun (h : Nat) => upto (F h) m + F h m).sum = _ + _
    rw [← upto_sum_swap n F m]
    have : ∀ l : List Nat, (l.map fun h => upto (F h) m + F h m).sum = (l.map fun h => upto (F h) m).sum + (l.map fun h => F h m).sum := fun l => by
      induction l with
      | nil => rfl
      | cons x l ih => simp only [List.map_cons, List.sum_cons]; rw [ih]; omega
    exact this _
theorem upto_congr {f g : Nat → Int} : ∀ {m : Nat}, (∀ i, i < m → f i = g i) → upto f m = upto g m
  | 0, _ => rfl
  | m + 1, h => by
    show upto f m + f m = upto g m + g m
    rw [upto_congr fun i hi => h i (by omega), h m (by omega)]
theorem on_upto (b : Bk) (P : List Int) (h : Int) : sumAt P (on b h) = upto (fun i => if (b.at i).d = h then at' P i else 0) b.m := by
  have := upto_pick (b := b) (fun x => decide (x.d = h)) fun i => at' P i.toNat
  unfold sumAt on
  rw [← this]
  refine upto_congr fun i _ => ?_
  simp
theorem ofc_upto (b : Bk) (P : List Int) (h : Int) : sumAt P (ofc b h) = upto (fun i => if (b.at i).c = h then at' P i else 0) b.m := by
  have := upto_pick (b := b) (fun x => decide (x.c = h)) fun i => at' P i.toNat
  unfold sumAt ofc
  rw [← this]
  refine upto_congr fun i _ => ?_
  simp
theorem sum_ofc {b : Bk} (hb : BkW b) (P : List Int) : ((List.range b.n).map fun (h : Nat) => sumAt P (ofc b h)).sum = upto (at' P) b.m := by
  have : ((List.range b.n).map fun (h : Nat) => sumAt P (ofc b h)) = (List.range b.n).map fun (h : Nat) => upto (fun i => if (b.at i).c = (h : Int) then at' P i else 0) b.m := List.map_congr_left fun h _ => ofc_upto b P h
  rw [this, upto_sum_swap b.n fun h i => if (b.at i).c = (h : Int) then at' P i else 0]
  refine upto_congr fun i hi => ?_
  obtain ⟨_, _, c0, c1, _⟩ := hb.at (i := (i : Int)) (by omega) (by omega)
  rw [sum_one, if_pos ⟨c0, c1⟩]
theorem sum_on {b : Bk} (hb : BkW b) (P : List Int) : ((List.range b.n).map fun (h : Nat) => sumAt P (on b h)).sum = upto (at' P) b.m := by
  have : ((List.range b.n).map fun (h : Nat) => sumAt P (on b h)) = (List.range b.n).map fun (h : Nat) => upto (fun i => if (b.at i).d = (h : Int) then at' P i else 0) b.m := List.map_congr_left fun h _ => on_upto b P h
  rw [this, upto_sum_swap b.n fun h i => if (b.at i).d = (h : Int) then at' P i else 0]
  refine upto_congr fun i hi => ?_
  obtain ⟨d0, d1, _⟩ := hb.at (i := (i : Int)) (by omega) (by omega)
  rw [sum_one, if_pos ⟨d0, d1⟩]
theorem sum_nat3 (f g k : Nat → Int) : ∀ l : List Nat, (l.map fun x => f x + g x - k x).sum = (l.map f).sum + (l.map g).sum - (l.map k).sum
  | [] => rfl
  | x :: l => by simp only [List.map_cons, List.sum_cons]; rw [sum_nat3 f g k l]; omega
theorem range_at : ∀ c : List Int, (List.range c.length).map (fun (k : Nat) => at' c k) = c := fun c => by
  refine ext_at _ _ (by simp) fun i hi => ?_
  have hi : i < c.length := by simpa using hi
  unfold at'
  rw [List.getD_eq_getElem?_getD, List.getElem?_map, List.getElem?_range hi]
  rfl
theorem lft_sum {b : Bk} (hb : BkW b) (P : List Int) : (lft b P).sum = b.cash.sum := by
  have h1 := sum_nat3 (fun h => at' b.cash h) (fun h => sumAt P (ofc b h)) (fun h => sumAt P (on b h)) (List.range b.n)
  rw [sum_ofc hb, sum_on hb] at h1
  have e : lft b P = (List.range b.n).map fun (h : Nat) => at' b.cash h + sumAt P (ofc b h) - sumAt P (on b h) := by
    unfold lft mean
    refine List.map_congr_left fun h _ => ?_
    rw [Int.toNat_natCast]
  rw [e, h1]
  have := range_at b.cash
  unfold Bk.n
  rw [this]; omega
theorem lft_nn {b : Bk} (hb : BkW b) {P : List Int} (hP : POk b P) (hf : T b (allH b) P = P) : ∀ x ∈ lft b P, 0 ≤ x := fun x hx => by
  unfold lft at hx
  obtain ⟨h, hh, rfl⟩ := List.mem_map.mp hx
  rw [List.mem_range] at hh
  have := paid_le hb hP hf (h := (h : Int)) (by omega) (by omega)
  omega
/-! ### what a house needs -/
/-- a house's coins are c -/
def Bk.put (b : Bk) (h c : Int) : Bk := b.wc (b.cash.set h.toNat c)
def Fail (b : Bk) (h : Int) : Prop := mean b h (bst b) < owe b h
instance (b : Bk) (h : Int) : Decidable (Fail b h) := by unfold Fail; exact inferInstance
theorem put_ok {b : Bk} (hb : BkW b) {h c : Int} (c0 : 0 ≤ c) (c1 : c ≤ 100000) : BkW (b.put h c) := by
  have ln : (b.put h c).n = b.n := by unfold Bk.put Bk.wc Bk.n; simp
  refine ⟨by rw [ln]; exact hb.n1, by rw [ln]; exact hb.n8, fun x hx => ?_, hb.m24, fun x hx => by rw [ln]; exact hb.cl x hx⟩
  rcases List.mem_or_eq_of_mem_set hx with hx | rfl
  · exact hb.cash x hx
  · exact ⟨c0, c1⟩
theorem put_le {b : Bk} {h c c' : Int} (hh : h.toNat < b.cash.length) (hc : c ≤ c') : CLe (b.put h c) ((b.put h c').cash) := by
  refine ⟨by unfold Bk.put Bk.wc; simp, fun i => ?_⟩
  show at' (b.cash.set h.toNat c) i ≤ at' (b.cash.set h.toNat c') i
  rw [at_set _ _ _ _ hh, at_set _ _ _ _ hh]
  split <;> omega
theorem fail_dn {b : Bk} (hb : BkW b) {h c c' : Int} (hh : h.toNat < b.cash.length) (c0 : 0 ≤ c) (hc : c ≤ c') (c1 : c' ≤ 100000) (hf : Fail (b.put h c') h) : Fail (b.put h c) h := by
  have h1 := bst_wc (put_ok hb (h := h) c0 (Int.le_trans hc c1)) (put_le (b := b) hh hc)
  have h2 := mean_wc (put_le (b := b) hh hc) h h1
  exact Int.lt_of_le_of_lt h2 hf
theorem fail_not {b : Bk} (hb : BkW b) {h c : Int} (hh : h.toNat < b.cash.length) (c0 : 0 ≤ c) (c1 : c ≤ 100000) (hc : owe b h ≤ c) : ¬ Fail (b.put h c) h := fun hf => by
  have ok := put_ok hb (h := h) c0 c1
  have hs := sumAt_nn (Bst_ok ok).nn (ofc (b.put h c) h)
  have e : at' (b.put h c).cash h.toNat = c := by
    show at' (b.cash.set h.toNat c) h.toNat = c
    rw [at_set _ _ _ _ hh, if_pos rfl]
  have hf : at' (b.put h c).cash h.toNat + sumAt (bst (b.put h c)) (ofc (b.put h c) h) < owe b h := hf
  omega
structure Need (b : Bk) (h k : Int) : Prop where
  nn : 0 ≤ k
  up : k ≤ owe b h
  no : ¬ Fail (b.put h (at' b.cash h.toNat + k)) h
  lo : ∀ j, 0 ≤ j → j < k → Fail (b.put h (at' b.cash h.toNat + j)) h
theorem Need.uniq {b : Bk} {h k k' : Int} (n : Need b h k) (n' : Need b h k') : k = k' := by
  rcases Int.lt_trichotomy k k' with z | z | z
  · exact absurd (n'.lo k n.nn z) n.no
  · exact z
  · exact absurd (n.lo k' n'.nn z) n'.no
theorem put_same {b : Bk} {h : Int} (hh : h.toNat < b.cash.length) : b.put h (at' b.cash h.toNat) = b := by
  have : b.cash.set h.toNat (at' b.cash h.toNat) = b.cash := by
    refine ext_at _ _ (by simp) fun i hi => ?_
    rw [at_set _ _ _ _ hh]
    split
    · rename_i e; rw [e]
    · rfl
  unfold Bk.put Bk.wc
  rw [this]
/-! ### papers -/
inductive Pp (b : Bk) : List Int → List (Int × Int × Int) → Prop
  | nil {F} : wave b F = [] → Pp b F []
  | cons {F h t l} : wave b F = h :: t → Pp b (F ++ [h]) l → Pp b F ((h, mean b h (flim b F), owe b h) :: l)
theorem Pp.uniq {b : Bk} {F : List Int} {l l' : List (Int × Int × Int)} (h : Pp b F l) (h' : Pp b F l') : l = l' := by
  induction h generalizing l' with
  | nil e => cases h' with
    | nil _ => rfl
    | cons n _ => rw [e] at n; cases n
  | cons n _ ih => cases h' with
    | nil e => rw [e] at n; cases n
    | cons m q =>
      rw [n] at m
      cases m
      rw [ih q]
/-- whether rows show that their houses fail, some having fallen -/
def Shw (b : Bk) : List Int → List (Int × Int × Int) → Prop
  | _, [] => True
  | F, r :: rs => (r.1 ∈ allH b ∧ r.1 ∉ F ∧ r.2.1 = mean b r.1 (flim b F) ∧ r.2.2 = owe b r.1 ∧ r.2.1 < r.2.2) ∧ Shw b (F ++ [r.1]) rs
instance instShw (b : Bk) : ∀ (F : List Int) (l : List (Int × Int × Int)), Decidable (Shw b F l)
  | _, [] => isTrue trivial
  | F, r :: rs => by
    have := instShw b (F ++ [r.1]) rs
    unfold Shw
    exact inferInstance
theorem pp_shows {b : Bk} {F : List Int} {l : List (Int × Int × Int)} (h : Pp b F l) : Shw b F l := by
  induction h with
  | nil _ => trivial
  | cons n _ ih =>
    rename_i F h t l _
    have := wave_mem.mp (show h ∈ wave b F by rw [n]; simp)
    exact ⟨⟨this.1, this.2.1, rfl, rfl, this.2.2⟩, ih⟩
end Mx

/-! ### coins paid on, one by one -/
namespace Mx
/-- what is paid of a group -/
def paidG (P : List Int) (g : List Int) : List Int := g.map fun i => at' P i.toNat
/-- the claim to which the next coin goes; -1 for none -/
def nxtG (b : Bk) (P : List Int) : List (List Int) → Int
  | [] => -1
  | g :: gs => if 0 ≤ nx (amts b g) (paidG P g) then g.getD (nx (amts b g) (paidG P g)).toNat 0 else nxtG b P gs
def nxt (b : Bk) (h : Int) (P : List Int) : Int := nxtG b P ((rks b h).map (grp b h))
def bump (j : Int) (z : Int × Int) : Int × Int := if z.1 = j then (z.1, z.2 + 1) else z
theorem bump_out {j : Int} : ∀ {l : List (Int × Int)}, j ∉ l.map (·.1) → l.map (bump j) = l
  | [], _ => rfl
  | z :: l, h => by
    rw [List.map_cons, bump_out fun q => h (List.mem_cons_of_mem _ q)]
    have : z.1 ≠ j := fun e => h (by rw [← e]; simp)
    unfold bump; rw [if_neg this]
theorem bump_zip : ∀ {g p : List Int} {k : Nat}, p.length = g.length → g.Nodup → k < g.length → (g.zip p).map (bump (g.getD k 0)) = g.zip (inc p k)
  | [], _, k, _, _, hk => absurd hk (Nat.not_lt_zero _)
  | x :: g, [], _, h, _, _ => by cases h
  | x :: g, y :: p, 0, h, hn, _ => by
    obtain ⟨n1, n2⟩ := List.nodup_cons.mp hn
    show bump x (x, y) :: (g.zip p).map (bump x) = (x, y + 1) :: g.zip p
    rw [bump_out fun q => n1 (by obtain ⟨z, hz, rfl⟩ := List.mem_map.mp q; exact (List.of_mem_zip hz).1)]
    unfold bump; rw [if_pos rfl]
  | x :: g, y :: p, k + 1, h, hn, hk => by
    obtain ⟨n1, n2⟩ := List.nodup_cons.mp hn
    have hk' : k < g.length := by simpa using hk
    have ih := bump_zip (g := g) (p := p) (k := k) (by simpa using h) n2 hk'
    have ne : x ≠ g.getD k 0 := fun e => n1 (by rw [e, List.getD_eq_getElem?_getD, List.getElem?_eq_getElem hk']; exact List.getElem_mem hk')
    show bump (g.getD k 0) (x, y) :: (g.zip p).map (bump (g.getD k 0)) = (x, y) :: g.zip (inc p k)
    rw [ih]
    unfold bump; rw [if_neg ne]
theorem zip_paid {P : List Int} : ∀ {g p : List Int}, p.length = g.length → (∀ z ∈ g.zip p, at' P z.1.toNat = z.2) → paidG P g = p
  | [], [], _, _ => rfl
  | x :: g, y :: p, h, hz => by
    have h1 := hz (x, y) (by simp)
    have ih := zip_paid (P := P) (g := g) (p := p) (by simpa using h) fun z q => hz z (by rw [List.zip_cons_cons]; exact List.mem_cons_of_mem _ q)
    show at' P x.toNat :: paidG P g = _
    rw [ih, h1]
  | [], _ :: _, h, _ => by cases h
  | _ :: _, [], h, _ => by cases h
theorem nx_full {am : List Int} (ha : ∀ i, i < am.length → 0 < at' am i) : nx am am < 0 := by
  refine Int.not_le.mp fun z => ?_
  have := (nx_ok (pd := am) ha fun i hi => Int.le_of_lt (ha i hi)).some_ z
  omega
theorem payG_zero {b : Bk} : ∀ {gs : List (List Int)} {m m' : Int}, m ≤ 0 → m' ≤ 0 → (∀ g ∈ gs, Amt b g) → payG b gs m = payG b gs m'
  | [], _, _, _, _, _ => rfl
  | g :: gs, m, m', h, h', hA => by
    have hg := hA g (by simp)
    have hs := amts_sum hg
    have e : ∀ k : Int, k ≤ 0 → sh (amts b g) k = zeros (amts b g).length := fun k hk => by
      unfold sh gr
      rw [show (min k (amts b g).sum).toNat = 0 by omega]; rfl
    show g.zip (sh (amts b g) m) ++ payG b gs (m - (sh (amts b g) m).sum) = g.zip (sh (amts b g) m') ++ payG b gs (m' - (sh (amts b g) m').sum)
    rw [e m h, e m' h', sum_zeros, payG_zero (m := m - 0) (m' := m' - 0) (by omega) (by omega) fun g' hg' => hA g' (List.mem_cons_of_mem _ hg')]
theorem nxtG_step {b : Bk} {P : List Int} : ∀ {gs : List (List Int)} {t : Int}, 0 ≤ t → (∀ g ∈ gs, Amt b g) → gs.flatten.Nodup → (∀ z ∈ payG b gs t, at' P z.1.toNat = z.2) →
    (t < (gs.map fun g => (amts b g).sum).sum → nxtG b P gs ∈ gs.flatten ∧ payG b gs (t + 1) = (payG b gs t).map (bump (nxtG b P gs))) ∧ ((gs.map fun g => (amts b g).sum).sum ≤ t → nxtG b P gs = -1)
  | [], t, h0, _, _, _ => ⟨fun h => (by simp at h; omega), fun _ => rfl⟩
  | g :: gs, t, h0, hA, hn, hP => by
    have hg := hA g (by simp)
    have hgs := fun g' hg' => hA g' (List.mem_cons_of_mem _ hg')
    have hsum := amts_sum hg
    have hl := sh_len' hg h0
    have hal : (amts b g).length = g.length := by unfold amts; simp
    rw [List.flatten_cons, List.nodup_append] at hn
    obtain ⟨n1, n2, n3⟩ := hn
    obtain ⟨G, S⟩ := good_sh hg.pos h0
    have hP : ∀ z ∈ g.zip (sh (amts b g) t) ++ payG b gs (t - (sh (amts b g) t).sum), at' P z.1.toNat = z.2 := hP
    have ep : paidG P g = sh (amts b g) t := zip_paid hl fun z hz => hP z (List.mem_append_left _ hz)
    have hk : (payG b gs (t - (sh (amts b g) t).sum)).map (·.1) = gs.flatten := payG_keys (sh_left hg h0).1 hgs
    rw [List.map_cons, List.sum_cons]
    show (_ → (if 0 ≤ nx (amts b g) (paidG P g) then g.getD (nx (amts b g) (paidG P g)).toNat 0 else nxtG b P gs) ∈ g ++ gs.flatten ∧ g.zip (sh (amts b g) (t + 1)) ++ payG b gs (t + 1 - (sh (amts b g) (t + 1)).sum) = (g.zip (sh (amts b g) t) ++ payG b gs (t - (sh (amts b g) t).sum)).map (bump (if 0 ≤ nx (amts b g) (paidG P g) then g.getD (nx (amts b g) (paidG P g)).toNat 0 else nxtG b P gs))) ∧ (_ → (if 0 ≤ nx (amts b g) (paidG P g) then g.getD (nx (amts b g) (paidG P g)).toNat 0 else nxtG b P gs) = -1)
    rw [ep]
    have hs2 : 0 ≤ (gs.map fun g => (amts b g).sum).sum := sum_nn fun x hx => by
      obtain ⟨g', hg', rfl⟩ := List.mem_map.mp hx
      exact amts_sum (hgs g' hg')
    by_cases q : t < (amts b g).sum
    · obtain ⟨k0, k1, G2, S2⟩ := good_nx hg.pos G (by rw [S]; omega)
      rw [if_pos k0]
      generalize hj : (nx (amts b g) (sh (amts b g) t)).toNat = k at *
      have kl : k < g.length := by omega
      have e1 : sh (amts b g) (t + 1) = inc (sh (amts b g) t) k := sh_of_good hg.pos (by omega) (by omega) G2 (by rw [S2, S]; omega)
      have hm : g.getD k 0 ∈ g := by rw [List.getD_eq_getElem?_getD, List.getElem?_eq_getElem kl]; exact List.getElem_mem kl
      refine ⟨fun _ => ⟨List.mem_append_left _ hm, ?_⟩, fun z => by omega⟩
      rw [List.map_append, bump_zip hl n1 kl, e1, S2, bump_out (by rw [hk]; exact fun z => n3 _ hm _ z rfl)]
      congr 1
      exact payG_zero (by rw [S]; omega) (by rw [S]; omega) hgs
    · have ef : sh (amts b g) t = amts b g := sh_all hg.pos h0 (by omega)
      have ef1 : sh (amts b g) (t + 1) = amts b g := sh_all hg.pos (by omega) (by omega)
      have hneg : ¬ 0 ≤ nx (amts b g) (sh (amts b g) t) := by rw [ef]; have := nx_full hg.pos; omega
      rw [if_neg hneg, ef, ef1]
      rw [ef] at hP hk
      obtain ⟨I1, I2⟩ := nxtG_step (b := b) (P := P) (gs := gs) (t := t - (amts b g).sum) (by omega) hgs n2 fun z hz => hP z (List.mem_append_right _ hz)
      refine ⟨fun z => ?_, fun z => I2 (by omega)⟩
      obtain ⟨J1, J2⟩ := I1 (by omega)
      refine ⟨List.mem_append_right _ J1, ?_⟩
      rw [List.map_append, show t + 1 - (amts b g).sum = t - (amts b g).sum + 1 by omega, J2, bump_out (l := g.zip (amts b g)) fun z => ?_]
      obtain ⟨y, hy, e⟩ := List.mem_map.mp z
      have hyg : y.1 ∈ g := (List.of_mem_zip hy).1
      exact n3 _ hyg _ J1 e
theorem lookup_bump {j i : Int} : ∀ l : List (Int × Int), (l.map (bump j)).lookup i = (l.lookup i).map fun v => if i = j then v + 1 else v
  | [] => rfl
  | (k, v) :: l => by
    have e : bump j (k, v) = (k, if k = j then v + 1 else v) := by
      unfold bump
      by_cases h : k = j
      · rw [if_pos h, if_pos h]
      · rw [if_neg h, if_neg h]
    rw [List.map_cons, e, List.lookup_cons, List.lookup_cons, lookup_bump l]
    by_cases h : i = k
    · subst h; simp
    · have : (i == k) = false := by simpa using h
      rw [this]
/-- every house has paid by ranks -/
def Rk (b : Bk) (P : List Int) : Prop := ∀ h : Int, ∀ i ∈ on b h, at' P i.toNat = coin b h (sumAt P (on b h)) i
theorem grps_nd {b : Bk} (hb : BkW b) (h : Int) : ((rks b h).map (grp b h)).flatten.Nodup := by
  have h1 := payG_keys (b := b) (gs := (rks b h).map (grp b h)) (m := 0) (Int.le_refl 0) fun g hg => by
    obtain ⟨r, hr, rfl⟩ := List.mem_map.mp hg
    exact amt_on hb grp_sub
  rw [← h1, payP_rks]
  exact payP_nodup hb h (Int.le_refl 0)
theorem grps_amt {b : Bk} (hb : BkW b) (h : Int) : ∀ g ∈ (rks b h).map (grp b h), Amt b g := fun g hg => by
  obtain ⟨r, hr, rfl⟩ := List.mem_map.mp hg
  exact amt_on hb grp_sub
theorem grps_sum {b : Bk} (hb : BkW b) (h : Int) : (((rks b h).map (grp b h)).map fun g => (amts b g).sum).sum = owe b h := by
  have h1 : ((rks b h).map (grp b h)).flatten.Perm (on b h) := by
    have e := payG_keys (b := b) (m := 0) (Int.le_refl 0) (grps_amt hb h)
    rw [← e, payP_rks]
    exact payP_keys hb h (Int.le_refl 0)
  have h2 := sum_perm (h1.map fun i => (b.at i).a)
  rw [show ((on b h).map fun i => (b.at i).a).sum = owe b h from rfl] at h2
  rw [← h2, List.map_flatten, sum_flatten, List.map_map, List.map_map, List.map_map]
  rfl
theorem grps_mem {b : Bk} (hb : BkW b) {h i : Int} : i ∈ ((rks b h).map (grp b h)).flatten ↔ i ∈ on b h := by
  have e := payG_keys (b := b) (m := 0) (Int.le_refl 0) (grps_amt hb h)
  rw [← e, payP_rks]
  exact (payP_keys hb h (Int.le_refl 0)).mem_iff
/-- the next claim: it is the house's, and takes the next coin -/
theorem nxt_ok {b : Bk} (hb : BkW b) {P : List Int} (hP : POk b P) (hR : Rk b P) (h : Int) :
    (sumAt P (on b h) < owe b h → nxt b h P ∈ on b h ∧ ∀ i, coin b h (sumAt P (on b h) + 1) i = if i = nxt b h P then coin b h (sumAt P (on b h)) i + 1 else coin b h (sumAt P (on b h)) i) ∧ (owe b h ≤ sumAt P (on b h) → nxt b h P = -1) := by
  have t0 := sumAt_nn hP.nn (on b h)
  have hm : ∀ z ∈ payG b ((rks b h).map (grp b h)) (sumAt P (on b h)), at' P z.1.toNat = z.2 := fun z hz => by
    rw [payP_rks] at hz
    have hi : z.1 ∈ on b h := (payP_keys hb h t0).mem_iff.mp (List.mem_map.mpr ⟨z, hz, rfl⟩)
    rw [hR h z.1 hi]
    unfold coin
    rw [lookup_in (payP_nodup hb h t0) hz]; rfl
  obtain ⟨I1, I2⟩ := nxtG_step t0 (grps_amt hb h) (grps_nd hb h) hm
  rw [grps_sum hb h] at I1 I2
  refine ⟨fun z => ?_, I2⟩
  obtain ⟨J1, J2⟩ := I1 z
  have J1' := (grps_mem hb).mp J1
  refine ⟨J1', fun i => ?_⟩
  have e : coin b h (sumAt P (on b h) + 1) i = (((payP b h (sumAt P (on b h))).map (bump (nxt b h P))).lookup i).getD 0 := by
    unfold coin
    rw [← payP_rks, J2, payP_rks]; rfl
  rw [e, lookup_bump]
  by_cases hi : i ∈ on b h
  · rw [coin_of hb h t0 hi]
    rfl
  · have hne : i ≠ nxt b h P := fun q => hi (by rw [q]; exact J1')
    rw [if_neg hne]
    have : (payP b h (sumAt P (on b h))).lookup i = none := by
      have hk : i ∉ (payP b h (sumAt P (on b h))).map (·.1) := fun q => hi ((payP_keys hb h t0).mem_iff.mp q)
      clear hm I1 I2 J1 J2 e
      generalize payP b h (sumAt P (on b h)) = l at hk
      induction l with
      | nil => rfl
      | cons z l ih =>
        rw [List.lookup_cons, show (i == z.1) = false by simpa using fun q => hk (by rw [q]; simp)]
        exact ih fun q => hk (List.mem_cons_of_mem _ q)
    unfold coin
    rw [this]; rfl
/-- a coin of claim j -/
def pay1 (P : List Int) (j : Int) : List Int := P.set j.toNat (at' P j.toNat + 1)
theorem pay1_at {P : List Int} {j : Int} (hj : j.toNat < P.length) (i : Nat) : at' (pay1 P j) i = if i = j.toNat then at' P i + 1 else at' P i := by
  unfold pay1
  rw [at_set _ _ _ _ hj]
  split
  · rename_i e; rw [e]
  · rfl
theorem sum_pay1 {P : List Int} {j : Int} (hj : j.toNat < P.length) (j0 : 0 ≤ j) : ∀ {l : List Int}, l.Nodup → (∀ i ∈ l, 0 ≤ i) → sumAt (pay1 P j) l = sumAt P l + if j ∈ l then 1 else 0
  | [], _, _ => rfl
  | x :: l, hn, h0 => by
    obtain ⟨n1, n2⟩ := List.nodup_cons.mp hn
    have ih := sum_pay1 hj j0 n2 fun i hi => h0 i (List.mem_cons_of_mem _ hi)
    have x0 := h0 x (by simp)
    have e : ∀ Q, sumAt Q (x :: l) = at' Q x.toNat + sumAt Q l := fun Q => by unfold sumAt; rw [List.map_cons, List.sum_cons]
    rw [e, e, ih, pay1_at hj]
    by_cases q : x = j
    · subst q
      rw [if_pos rfl, if_neg n1, if_pos (List.mem_cons_self ..)]; omega
    · rw [if_neg (by omega)]
      by_cases q2 : j ∈ l
      · rw [if_pos q2, if_pos (List.mem_cons_of_mem _ q2)]; omega
      · rw [if_neg q2, if_neg fun z => (List.mem_cons.mp z).elim (fun z => q z.symm) q2]; omega
theorem on_nd (b : Bk) (h : Int) : (on b h).Nodup := nodup_up (on_up b h)
theorem ofc_nd (b : Bk) (h : Int) : (ofc b h).Nodup := nodup_up pick_up
/-- all is well while coins are paid -/
structure Pst (b : Bk) (P : List Int) : Prop where
  ok : POk b P
  rk : Rk b P
  has : ∀ h ∈ allH b, sumAt P (on b h) ≤ mean b h P
  le : Le P (wst b)
def May (b : Bk) (P : List Int) (h : Int) : Prop := sumAt P (on b h) < mean b h P ∧ sumAt P (on b h) < owe b h
instance (b : Bk) (P : List Int) (h : Int) : Decidable (May b P h) := by unfold May; exact inferInstance
theorem on_nn {b : Bk} {h : Int} : ∀ i ∈ on b h, 0 ≤ i := fun i hi => (on_mem.mp hi).1
theorem ofc_nn {b : Bk} {h : Int} : ∀ i ∈ ofc b h, 0 ≤ i := fun i hi => (ofc_mem.mp hi).1
theorem Pst.pay {b : Bk} (hb : BkW b) {P : List Int} (S : Pst b P) {h : Int} (hh : h ∈ allH b) (hm : May b P h) : Pst b (pay1 P (nxt b h P)) ∧ nxt b h P ∈ on b h := by
  obtain ⟨J1, J2⟩ := (nxt_ok hb S.ok S.rk h).1 hm.2
  refine ⟨?_, J1⟩
  generalize nxt b h P = j at *
  obtain ⟨j0, j1, jd⟩ := on_mem.mp J1
  have jl : j.toNat < P.length := by rw [S.ok.len]; omega
  have t0 := sumAt_nn S.ok.nn (on b h)
  have ej : ((j.toNat : Nat) : Int) = j := by omega
  have pj : at' P j.toNat = coin b h (sumAt P (on b h)) j := S.rk h j J1
  have cj := J2 j
  rw [if_pos rfl] at cj
  have hi := (coin_in hb h (m := sumAt P (on b h) + 1) (by omega) J1).2
  have onj : ∀ h', j ∈ on b h' ↔ h' = h := fun h' => ⟨fun z => by rw [← (on_mem.mp z).2.2, jd], fun z => by rw [z]; exact J1⟩
  have ok : POk b (pay1 P j) := by
    refine ⟨by unfold pay1; rw [List.length_set]; exact S.ok.len, fun i hi => ?_, fun i hi' => ?_⟩ <;> rw [pay1_at jl] <;> split
    · have := S.ok.lo i hi; omega
    · exact S.ok.lo i hi
    · rename_i e
      subst e
      rw [ej]; omega
    · exact S.ok.hi i hi'
  refine ⟨ok, fun h' i hi' => ?_, fun h' hh' => ?_, fun i => ?_⟩
  · rw [sum_pay1 jl j0 (on_nd b h') on_nn, pay1_at jl]
    by_cases q : h' = h
    · subst q
      rw [if_pos J1, J2]
      have i0 := on_nn i hi'
      by_cases e : i = j
      · subst e; rw [if_pos rfl, if_pos rfl, S.rk h' i hi']
      · rw [if_neg (by omega), if_neg e]; exact S.rk h' i hi'
    · rw [if_neg fun z => q ((onj h').mp z)]
      have i0 := on_nn i hi'
      rw [if_neg (by
        intro e
        have : i = j := by omega
        exact q ((onj h').mp (by rw [← this]; exact hi'))), Int.add_zero]
      exact S.rk h' i hi'
  · have hs := S.has h' hh'
    rw [sum_pay1 jl j0 (on_nd b h') on_nn]
    have em : mean b h' (pay1 P j) = mean b h' P + if j ∈ ofc b h' then 1 else 0 := by
      unfold mean
      rw [sum_pay1 jl j0 (ofc_nd b h') ofc_nn]; omega
    rw [em]
    have : 0 ≤ (if j ∈ ofc b h' then (1 : Int) else 0) := by split <;> omega
    by_cases q : h' = h
    · subst q
      rw [if_pos J1]
      have := hm.1
      omega
    · rw [if_neg fun z => q ((onj h').mp z)]; omega
  · rw [pay1_at jl]
    split
    · rename_i e
      subst e
      have h1 := mean_mono (b := b) h S.le
      have h2 := coin_mono hb h (m := sumAt P (on b h) + 1) (m' := mean b h (wst b)) (by omega) (by have := hm.1; omega) j
      have h3 := fix_at hb (Wst_fix hb) J1
      omega
    · exact S.le i
theorem pst_zero {b : Bk} (hb : BkW b) : Pst b (zeroP b) := by
  have z : ∀ l, sumAt (zeroP b) l = 0 := fun l => zero_sum fun x hx => by
    obtain ⟨i, _, rfl⟩ := List.mem_map.mp hx
    unfold zeroP; exact at_zeros _ _
  refine ⟨zero_ok hb, fun h i hi => ?_, fun h hh => ?_, zero_le (Wst_ok hb)⟩
  · rw [z]
    have e : at' (zeroP b) i.toNat = 0 := by unfold zeroP; exact at_zeros _ _
    rw [e]
    have h1 := coins_sum hb h (Int.le_refl 0)
    have h2 : ∀ x ∈ (on b h).map (coin b h 0), 0 ≤ x := fun x hx => by
      obtain ⟨j, hj, rfl⟩ := List.mem_map.mp hx
      exact (coin_in hb h (Int.le_refl 0) hj).1
    have h3 := sum_nn h2
    exact (sum_zero h2 (by omega) _ (List.mem_map.mpr ⟨i, hi, rfl⟩)).symm
  · rw [z]; exact mean_nn hb h (zero_ok hb).nn
/-- where nobody may pay, it is the worst clearing -/
theorem Pst.still {b : Bk} (hb : BkW b) {P : List Int} (S : Pst b P) (hn : ∀ h ∈ allH b, ¬ May b P h) : P = wst b := by
  have fx : T b (allH b) P = P := by
    refine ext_at _ _ (by rw [T_len, S.ok.len]) fun i hi => ?_
    rw [T_len] at hi
    rw [T_all_at hb hi]
    obtain ⟨d0, d1, _⟩ := hb.at (i := (i : Int)) (by omega) (by omega)
    have hd : (b.at i).d ∈ allH b := Mem_all.mpr ⟨d0, d1⟩
    have hon : (i : Int) ∈ on b (b.at i).d := on_mem.mpr ⟨by omega, by omega, rfl⟩
    have h1 := S.rk _ _ hon
    rw [Int.toNat_natCast] at h1
    have h2 := S.has _ hd
    have h3 := hn _ hd
    unfold May at h3
    rw [h1]
    by_cases q : sumAt P (on b (b.at i).d) = mean b (b.at i).d P
    · rw [q]
    · have q2 : owe b (b.at i).d ≤ sumAt P (on b (b.at i).d) := Int.not_lt.mp fun z => h3 ⟨by omega, z⟩
      rw [coin_full hb _ q2 hon, coin_full hb _ (Int.le_trans q2 h2) hon]
  exact le_anti S.ok (Wst_ok hb) S.le (wst_min hb S.ok fx)
end Mx

/-! ### moves, orders -/
namespace Mx
inductive Mv where
  | pay (i c : Int)
  | ring (is : List Int) (c : Int)
deriving DecidableEq, Inhabited
def addc (P : List Int) (is : List Int) (c : Int) : List Int := is.foldl (fun P i => P.set i.toNat (at' P i.toNat + c)) P
def ap (P : List Int) : Mv → List Int
  | .pay i c => addc P [i] c
  | .ring is c => addc P is c
structure RingOk (b : Bk) (is : List Int) : Prop where
  two : 2 ≤ is.length
  nd : is.Nodup
  on : ∀ k, k < is.length → (b.at (is.getD k 0)).c = (b.at (is.getD ((k + 1) % is.length) 0)).d
/-- a move fits -/
def Fit (b : Bk) (P : List Int) : Mv → Prop
  | .pay i c => 0 ≤ i ∧ i < b.m ∧ at' P i.toNat + c ≤ (b.at i).a ∧ 1 ≤ c ∧ c ≤ at' (lft b P) (b.at i).d.toNat
  | .ring is c => (∀ i ∈ is, 0 ≤ i ∧ i < b.m ∧ at' P i.toNat + c ≤ (b.at i).a) ∧ 1 ≤ c ∧ RingOk b is
inductive Fits (b : Bk) : List Int → List Mv → List Int → Prop
  | nil {P} : Fits b P [] P
  | cons {P v l P'} : Fit b P v → Fits b (ap P v) l P' → Fits b P (v :: l) P'
theorem Fits.append {b : Bk} {P P' P'' : List Int} {l l' : List Mv} (h : Fits b P l P') (h' : Fits b P' l' P'') : Fits b P (l ++ l') P'' := by
  induction h with
  | nil => exact h'
  | cons f _ ih => exact .cons f (ih h')
theorem Fits.uniq {b : Bk} {P P' P'' : List Int} {l : List Mv} (h : Fits b P l P') (h' : Fits b P l P'') : P' = P'' := by
  induction h with
  | nil => cases h'; rfl
  | cons f _ ih => cases h' with
    | cons _ q => exact ih q
/-! coins more of some claims -/
theorem addc_len : ∀ (is P : List Int) (c : Int), (addc P is c).length = P.length
  | [], _, _ => rfl
  | i :: is, P, c => by show (addc (P.set i.toNat (at' P i.toNat + c)) is c).length = _; rw [addc_len is]; simp
theorem addc_at {c : Int} : ∀ {is P : List Int} {j : Nat}, is.Nodup → (∀ i ∈ is, 0 ≤ i ∧ i < P.length) → at' (addc P is c) j = at' P j + if (j : Int) ∈ is then c else 0
  | [], P, j, _, _ => by show at' P j = at' P j + if (j : Int) ∈ [] then c else 0; simp
  | i :: is, P, j, hn, h => by
    obtain ⟨n1, n2⟩ := List.nodup_cons.mp hn
    obtain ⟨i0, i1⟩ := h i (by simp)
    show at' (addc (P.set i.toNat (at' P i.toNat + c)) is c) j = _
    rw [addc_at n2 fun x hx => by rw [List.length_set]; exact h x (List.mem_cons_of_mem _ hx), at_set _ _ _ _ (by omega)]
    by_cases e : (j : Int) = i
    · rw [if_pos (by omega), if_neg (by rw [e]; exact n1), if_pos (by rw [e]; simp)]
      have : i.toNat = j := by omega
      rw [this]; omega
    · rw [if_neg (by omega)]
      by_cases q : (j : Int) ∈ is
      · rw [if_pos q, if_pos (List.mem_cons_of_mem _ q)]
      · rw [if_neg q, if_neg fun z => (List.mem_cons.mp z).elim e q]
def cnt (l is : List Int) : Int := ((is.filter fun i => decide (i ∈ l)).length : Nat)
theorem sum_addc {P : List Int} {c : Int} : ∀ {is l : List Int}, is.Nodup → l.Nodup → (∀ i ∈ is, 0 ≤ i ∧ i < P.length) → (∀ i ∈ l, 0 ≤ i) → sumAt (addc P is c) l = sumAt P l + ((l.filter fun i => decide (i ∈ is)).length : Nat) * c
  | is, [], _, _, _, _ => by show (0 : Int) = 0 + ((0 : Nat) : Int) * c; simp
  | is, x :: l, hn, hl, h, h0 => by
    obtain ⟨n1, n2⟩ := List.nodup_cons.mp hl
    have ih := sum_addc (P := P) (c := c) (is := is) (l := l) hn n2 h fun i hi => h0 i (List.mem_cons_of_mem _ hi)
    have e : ∀ Q, sumAt Q (x :: l) = at' Q x.toNat + sumAt Q l := fun Q => by unfold sumAt; rw [List.map_cons, List.sum_cons]
    have x0 := h0 x (by simp)
    rw [e, e, ih, addc_at hn h, show ((x.toNat : Nat) : Int) = x by omega]
    by_cases q : x ∈ is
    · rw [if_pos q, List.filter_cons_of_pos (by simpa using q), List.length_cons]
      have : (((l.filter fun i => decide (i ∈ is)).length + 1 : Nat) : Int) * c = ((l.filter fun i => decide (i ∈ is)).length : Nat) * c + c := by rw [Int.natCast_add, Int.add_mul]; simp
      rw [this]; omega
    · rw [if_neg q, List.filter_cons_of_neg (by simpa using q)]; omega
theorem filter_swap : ∀ {l is : List Int}, l.Nodup → is.Nodup → (l.filter fun i => decide (i ∈ is)).length = (is.filter fun i => decide (i ∈ l)).length := fun {l is} hl hi => by
  have h1 : (l.filter fun i => decide (i ∈ is)).length ≤ (is.filter fun i => decide (i ∈ l)).length := nd_len (hl.filter _) fun x hx => by
    rw [List.mem_filter] at hx ⊢
    exact ⟨by simpa using hx.2, by simpa using hx.1⟩
  have h2 : (is.filter fun i => decide (i ∈ l)).length ≤ (l.filter fun i => decide (i ∈ is)).length := nd_len (hi.filter _) fun x hx => by
    rw [List.mem_filter] at hx ⊢
    exact ⟨by simpa using hx.2, by simpa using hx.1⟩
  omega
theorem sum_on_addc {b : Bk} {P is : List Int} {c : Int} (hP : P.length = b.m) (hn : is.Nodup) (h : ∀ i ∈ is, 0 ≤ i ∧ i < b.m) (x : Int) : sumAt (addc P is c) (on b x) = sumAt P (on b x) + ((is.filter fun i => decide ((b.at i).d = x)).length : Nat) * c := by
  rw [sum_addc hn (on_nd b x) (fun i hi => by rw [hP]; exact h i hi) on_nn, filter_swap (on_nd b x) hn]
  congr 3
  congr 1
  refine List.filter_congr fun i hi => ?_
  have := h i hi
  by_cases q : (b.at i).d = x
  · rw [decide_eq_true q, decide_eq_true (on_mem.mpr ⟨this.1, this.2, q⟩)]
  · rw [decide_eq_false q, decide_eq_false fun z => q (on_mem.mp z).2.2]
theorem sum_ofc_addc {b : Bk} {P is : List Int} {c : Int} (hP : P.length = b.m) (hn : is.Nodup) (h : ∀ i ∈ is, 0 ≤ i ∧ i < b.m) (x : Int) : sumAt (addc P is c) (ofc b x) = sumAt P (ofc b x) + ((is.filter fun i => decide ((b.at i).c = x)).length : Nat) * c := by
  rw [sum_addc hn (ofc_nd b x) (fun i hi => by rw [hP]; exact h i hi) ofc_nn, filter_swap (ofc_nd b x) hn]
  congr 3
  congr 1
  refine List.filter_congr fun i hi => ?_
  have := h i hi
  by_cases q : (b.at i).c = x
  · rw [decide_eq_true q, decide_eq_true (ofc_mem.mpr ⟨this.1, this.2, q⟩)]
  · rw [decide_eq_false q, decide_eq_false fun z => q (ofc_mem.mp z).2.2]
theorem lft_at {b : Bk} {P : List Int} {h : Int} (hh : h ∈ allH b) : at' (lft b P) h.toNat = mean b h P - sumAt P (on b h) := by
  obtain ⟨h0, h1⟩ := Mem_all.mp hh
  unfold lft at'
  rw [List.getD_eq_getElem?_getD, List.getElem?_map, List.getElem?_range (by omega)]
  show mean b ((h.toNat : Nat) : Int) P - sumAt P (on b ((h.toNat : Nat) : Int)) = _
  rw [show ((h.toNat : Nat) : Int) = h by omega]
theorem lft_len (b : Bk) (P : List Int) : (lft b P).length = b.n := by unfold lft; simp
/-- what is held behind a coin move -/
theorem lft_pay {b : Bk} (hb : BkW b) {P : List Int} (hP : P.length = b.m) {i c : Int} (i0 : 0 ≤ i) (i1 : i < b.m) {h : Int} (hh : h ∈ allH b) : at' (lft b (addc P [i] c)) h.toNat = at' (lft b P) h.toNat + (if (b.at i).c = h then c else 0) - (if (b.at i).d = h then c else 0) := by
  have hm : ∀ x ∈ [i], 0 ≤ x ∧ x < (b.m : Int) := fun x hx => by rw [List.mem_singleton.mp hx]; exact ⟨i0, i1⟩
  rw [lft_at hh, lft_at hh, sum_on_addc hP (by simp) hm]
  have e : mean b h (addc P [i] c) = mean b h P + (([i].filter fun i => decide ((b.at i).c = h)).length : Nat) * c := by
    unfold mean
    rw [sum_ofc_addc hP (by simp) hm]; omega
  rw [e]
  have f : ∀ p : Int → Bool, (([i].filter p).length : Nat) * c = if p i = true then c else 0 := fun p => by
    by_cases q : p i = true
    · rw [List.filter_cons_of_pos q, if_pos q]; simp
    · rw [List.filter_cons_of_neg q, if_neg q]; simp
  rw [f, f]
  simp only [decide_eq_true_eq]
  omega
theorem rot_perm {b : Bk} {is : List Int} (R : RingOk b is) : (is.map fun i => (b.at i).c).Perm (is.map fun i => (b.at i).d) := by
  obtain ⟨two, nd, on⟩ := R
  cases is with
  | nil => simp at two
  | cons x l =>
    have e : ((x :: l).map fun i => (b.at i).c) = (l ++ [x]).map fun i => (b.at i).d := by
      refine List.ext_getElem (by simp) fun k h1 h2 => ?_
      have hk : k < (x :: l).length := by simpa using h1
      rw [List.getElem_map, List.getElem_map]
      have := on k hk
      rw [List.getD_eq_getElem?_getD, List.getElem?_eq_getElem hk] at this
      show (b.at ((x :: l)[k])).c = _
      rw [show ((some (x :: l)[k]).getD 0) = (x :: l)[k] from rfl] at this
      rw [this]
      congr 2
      by_cases q : k = l.length
      · subst q
        rw [List.getElem_append_right (by omega)]
        simp
      · have hk2 : k < l.length := by simp at hk; omega
        rw [List.getElem_append_left hk2, List.length_cons, Nat.mod_eq_of_lt (by omega)]
        simp [hk2]
    rw [e]
    refine List.Perm.map _ ?_
    exact List.perm_append_singleton x l
theorem lft_ring {b : Bk} {P is : List Int} {c : Int} (hP : P.length = b.m) (R : RingOk b is) (hm : ∀ i ∈ is, 0 ≤ i ∧ i < b.m) : lft b (addc P is c) = lft b P := by
  refine ext_at _ _ (by rw [lft_len, lft_len]) fun k hk => ?_
  rw [lft_len] at hk
  have hh : (k : Int) ∈ allH b := Mem_all.mpr ⟨by omega, by omega⟩
  have h1 := lft_at (P := addc P is c) hh
  have h2 := lft_at (P := P) hh
  rw [Int.toNat_natCast] at h1 h2
  rw [h1, h2, sum_on_addc hP R.nd hm]
  have e : mean b k (addc P is c) = mean b k P + ((is.filter fun i => decide ((b.at i).c = (k : Int))).length : Nat) * c := by
    unfold mean
    rw [sum_ofc_addc hP R.nd hm]; omega
  have key : (is.filter fun i => decide ((b.at i).c = (k : Int))).length = (is.filter fun i => decide ((b.at i).d = (k : Int))).length := by
    have q := ((rot_perm R).filter fun y => decide (y = (k : Int))).length_eq
    rw [List.filter_map, List.filter_map, List.length_map, List.length_map] at q
    exact q
  rw [e, key]; omega
/-- P is between: no house holds less than nothing, no claim more than the goal -/
structure Bet (b : Bk) (G P : List Int) : Prop where
  ok : POk b P
  le : Le P G
  nn : ∀ h ∈ allH b, 0 ≤ at' (lft b P) h.toNat
/-! pays -/
def pc (b : Bk) (G P : List Int) (n : Nat) : Int := min (at' G n - at' P n) (at' (lft b P) (b.at n).d.toNat)
def npay (b : Bk) (G P : List Int) : Option Nat := (List.range b.m).find? fun n => decide (0 < pc b G P n)
inductive Pays (b : Bk) (G : List Int) : List Int → List Mv → List Int → Prop
  | nil {P} : npay b G P = none → Pays b G P [] P
  | cons {P n l P'} : npay b G P = some n → Pays b G (addc P [(n : Int)] (pc b G P n)) l P' → Pays b G P (.pay n (pc b G P n) :: l) P'
theorem Pays.uniq {b : Bk} {G P P' P'' : List Int} {l l' : List Mv} (h : Pays b G P l P') (h' : Pays b G P l' P'') : l = l' ∧ P' = P'' := by
  induction h generalizing l' with
  | nil e => cases h' with
    | nil _ => exact ⟨rfl, rfl⟩
    | cons n _ => rw [e] at n; cases n
  | cons n _ ih => cases h' with
    | nil e => rw [e] at n; cases n
    | cons m q =>
      rw [n] at m
      cases m
      obtain ⟨e1, e2⟩ := ih q
      exact ⟨by rw [e1], e2⟩
theorem npay_some {b : Bk} {G P : List Int} {n : Nat} (h : npay b G P = some n) : n < b.m ∧ 0 < pc b G P n := by
  have h1 := List.find?_some h
  have h2 := List.mem_of_find?_eq_some h
  rw [List.mem_range] at h2
  exact ⟨h2, of_decide_eq_true h1⟩
theorem pay_bet {b : Bk} (hb : BkW b) {G P : List Int} (hG : POk b G) (B : Bet b G P) {n : Nat} (hn : n < b.m) (hc : 0 < pc b G P n) : Bet b G (addc P [(n : Int)] (pc b G P n)) ∧ Fit b P (.pay n (pc b G P n)) ∧ (addc P [(n : Int)] (pc b G P n)).sum = P.sum + pc b G P n := by
  have h1 : pc b G P n ≤ at' G n - at' P n := Int.min_le_left _ _
  have h2 : pc b G P n ≤ at' (lft b P) (b.at n).d.toNat := Int.min_le_right _ _
  obtain ⟨d0, d1, c0, c1, hne, _⟩ := hb.at (i := (n : Int)) (by omega) (by omega)
  have g1 := hG.hi n hn
  have hm : ∀ x ∈ [(n : Int)], 0 ≤ x ∧ x < (P.length : Int) := fun x hx => by rw [List.mem_singleton.mp hx, B.ok.len]; omega
  have key : ∀ j, at' (addc P [(n : Int)] (pc b G P n)) j = at' P j + if j = n then pc b G P n else 0 := fun j => by
    rw [addc_at (by simp) hm]
    by_cases q : j = n
    · rw [if_pos (by rw [q]; simp), if_pos q]
    · rw [if_neg (by simp; omega), if_neg q]
  generalize hcc : pc b G P n = c at *
  refine ⟨⟨⟨by rw [addc_len]; exact B.ok.len, fun i hi => ?_, fun i hi => ?_⟩, fun i => ?_, fun h hh => ?_⟩, ⟨by omega, by omega, by rw [Int.toNat_natCast]; omega, by omega, h2⟩, ?_⟩
  · rw [key]; have := B.ok.lo i hi; split <;> omega
  · rw [key]
    split
    · rename_i e; subst e; omega
    · have := B.ok.hi i hi; omega
  · rw [key]
    split
    · rename_i e; subst e; omega
    · have := B.le i; omega
  · rw [lft_pay hb B.ok.len (by omega) (by omega) hh]
    have := B.nn h hh
    by_cases q : (b.at (n : Int)).d = h
    · subst q
      rw [if_neg (by omega), if_pos rfl]; omega
    · rw [if_neg q]
      split <;> omega
  · show (P.set (n : Int).toNat (at' P (n : Int).toNat + c)).sum = _
    rw [Int.toNat_natCast, sum_set' _ _ _ (by rw [B.ok.len]; exact hn)]; omega
theorem Pays.ok {b : Bk} (hb : BkW b) {G P P' : List Int} {l : List Mv} (hG : POk b G) (B : Bet b G P) (h : Pays b G P l P') : Bet b G P' ∧ Fits b P l P' ∧ P.sum + l.length ≤ P'.sum ∧ npay b G P' = none := by
  induction h with
  | nil e => exact ⟨B, .nil, by simp, e⟩
  | cons n _ ih =>
    obtain ⟨h1, h2⟩ := npay_some n
    obtain ⟨q1, q2, q3⟩ := pay_bet hb hG B h1 h2
    obtain ⟨r1, r2, r3, r4⟩ := ih q1
    exact ⟨r1, .cons q2 r2, by rw [q3] at r3; rw [List.length_cons]; omega, r4⟩
/-! rings -/
def opn (b : Bk) (G P : List Int) : List Int := ((List.range b.m).map fun (k : Nat) => (k : Int)).filter fun i => decide (at' P i.toNat < at' G i.toNat)
theorem opn_mem {b : Bk} {G P : List Int} {i : Int} : i ∈ opn b G P ↔ 0 ≤ i ∧ i < b.m ∧ at' P i.toNat < at' G i.toNat := by
  unfold opn
  rw [List.mem_filter, List.mem_map]
  constructor
  · rintro ⟨⟨k, hk, rfl⟩, h⟩
    rw [List.mem_range] at hk
    exact ⟨by omega, by omega, of_decide_eq_true h⟩
  · rintro ⟨h0, h1, h⟩
    exact ⟨⟨i.toNat, List.mem_range.mpr (by omega), by omega⟩, decide_eq_true h⟩
/-- every open claim's debtor holds nothing -/
structure Sti (b : Bk) (G P : List Int) : Prop extends Bet b G P where
  bare : ∀ i ∈ opn b G P, at' (lft b P) (b.at i).d.toNat = 0
theorem npay_none {b : Bk} (hb : BkW b) {G P : List Int} (B : Bet b G P) (h : npay b G P = none) : Sti b G P := ⟨B, fun i hi => by
  obtain ⟨i0, i1, hlt⟩ := opn_mem.mp hi
  have h1 := List.find?_eq_none.mp h i.toNat (List.mem_range.mpr (by omega))
  have h2 : ¬ 0 < pc b G P i.toNat := fun z => h1 (decide_eq_true z)
  obtain ⟨d0, d1, _⟩ := hb.at i0 i1
  have := B.nn (b.at i).d (Mem_all.mpr ⟨d0, d1⟩)
  unfold pc at h2
  rw [show ((i.toNat : Nat) : Int) = i by omega] at h2
  omega⟩
/-- what is open, in and out -/
def oin (b : Bk) (G P : List Int) (h : Int) : Int := sumAt G (ofc b h) - sumAt P (ofc b h)
def oout (b : Bk) (G P : List Int) (h : Int) : Int := sumAt G (on b h) - sumAt P (on b h)
theorem sumAt_le1 {P G : List Int} (h : Le P G) : ∀ {l : List Int} {i : Int}, i ∈ l → at' G i.toNat - at' P i.toNat ≤ sumAt G l - sumAt P l
  | [], _, hi => by cases hi
  | x :: l, i, hi => by
    have e : ∀ Q, sumAt Q (x :: l) = at' Q x.toNat + sumAt Q l := fun Q => by unfold sumAt; rw [List.map_cons, List.sum_cons]
    have h1 := sumAt_mono h l
    have h2 := h x.toNat
    rw [e, e]
    rcases List.mem_cons.mp hi with rfl | hi
    · omega
    · have := sumAt_le1 h hi; omega
theorem sumAt_eq0 {P G : List Int} (h : Le P G) : ∀ {l : List Int}, (∀ i ∈ l, ¬ at' P i.toNat < at' G i.toNat) → sumAt G l - sumAt P l = 0
  | [], _ => rfl
  | x :: l, hl => by
    have e : ∀ Q, sumAt Q (x :: l) = at' Q x.toNat + sumAt Q l := fun Q => by unfold sumAt; rw [List.map_cons, List.sum_cons]
    have h1 := hl x (by simp)
    have h2 := h x.toNat
    have := sumAt_eq0 h (l := l) fun i hi => hl i (List.mem_cons_of_mem _ hi)
    rw [e, e]; omega
theorem le_sum_zero : ∀ {l : List Int}, (∀ x ∈ l, 0 ≤ x) → l.sum ≤ 0 → ∀ x ∈ l, x = 0 := fun h hs => sum_zero h (by have := sum_nn h; omega)
/-- who is owed by an open claim owes by one, too -/
theorem goes_on {b : Bk} (hb : BkW b) {G P : List Int} (hG : ∀ h ∈ allH b, 0 ≤ at' (lft b G) h.toNat) (S : Sti b G P) {i : Int} (hi : i ∈ opn b G P) : ∃ j ∈ opn b G P, (b.at j).d = (b.at i).c := by
  obtain ⟨i0, i1, hlt⟩ := opn_mem.mp hi
  obtain ⟨_, _, c0, c1, _⟩ := hb.at i0 i1
  have hc : (b.at i).c ∈ allH b := Mem_all.mpr ⟨c0, c1⟩
  apply Classical.byContradiction
  intro hno
  have closed : ∀ j ∈ on b (b.at i).c, ¬ at' P j.toNat < at' G j.toNat := fun j hj z => by
    obtain ⟨j0, j1, jd⟩ := on_mem.mp hj
    exact hno ⟨j, opn_mem.mpr ⟨j0, j1, z⟩, jd⟩
  -- in less out is not below nought wherever something goes out
  have nn : ∀ h ∈ allH b, oout b G P h ≤ oin b G P h ∨ oout b G P h = 0 := fun h hh => by
    by_cases q : ∃ j ∈ on b h, at' P j.toNat < at' G j.toNat
    · obtain ⟨j, hj, z⟩ := q
      obtain ⟨j0, j1, jd⟩ := on_mem.mp hj
      have h1 := S.bare j (opn_mem.mpr ⟨j0, j1, z⟩)
      rw [jd, lft_at hh] at h1
      have h2 := hG h hh
      rw [lft_at hh] at h2
      unfold mean at h1 h2
      unfold oout oin
      exact .inl (by omega)
    · exact .inr (sumAt_eq0 S.le fun j hj z => q ⟨j, hj, z⟩)
  have inn : ∀ h, 0 ≤ oin b G P h := fun h => by have := sumAt_mono S.le (ofc b h); unfold oin; omega
  have e1 : ((List.range b.n).map fun (h : Nat) => oin b G P h).sum = ((List.range b.n).map fun (h : Nat) => oout b G P h).sum := by
    have f : ∀ (p q : Nat → Int) (l : List Nat), (l.map fun h => p h - q h).sum = (l.map p).sum - (l.map q).sum := fun p q l => by
      induction l with
      | nil => rfl
      | cons x l ih => simp only [List.map_cons, List.sum_cons]; rw [ih]; omega
    unfold oin oout
    rw [f (fun h => sumAt G (ofc b h)) (fun h => sumAt P (ofc b h)), f (fun h => sumAt G (on b h)) (fun h => sumAt P (on b h)), sum_ofc hb, sum_ofc hb, sum_on hb, sum_on hb]
  have z1 : ∀ x ∈ (List.range b.n).map (fun (h : Nat) => oin b G P h - oout b G P h), 0 ≤ x := fun x hx => by
    obtain ⟨h, hh, rfl⟩ := List.mem_map.mp hx
    rw [List.mem_range] at hh
    have := inn (h : Int)
    rcases nn (h : Int) (Mem_all.mpr ⟨by omega, by omega⟩) with z | z <;> omega
  have z2 : ((List.range b.n).map (fun (h : Nat) => oin b G P h - oout b G P h)).sum = 0 := by
    have f : ∀ (p q : Nat → Int) (l : List Nat), (l.map fun h => p h - q h).sum = (l.map p).sum - (l.map q).sum := fun p q l => by
      induction l with
      | nil => rfl
      | cons x l ih => simp only [List.map_cons, List.sum_cons]; rw [ih]; omega
    rw [f (fun h => oin b G P h) (fun h => oout b G P h), e1]; omega
  have z3 := sum_zero z1 z2 _ (List.mem_map.mpr ⟨(b.at i).c.toNat, List.mem_range.mpr (by omega), rfl⟩)
  rw [show (((b.at i).c.toNat : Nat) : Int) = (b.at i).c by omega] at z3
  have z4 : oout b G P (b.at i).c = 0 := sumAt_eq0 S.le closed
  have z5 := sumAt_le1 S.le (l := ofc b (b.at i).c) (i := i) (ofc_mem.mpr ⟨i0, i1, rfl⟩)
  have z6 : oin b G P (b.at i).c = sumAt G (ofc b (b.at i).c) - sumAt P (ofc b (b.at i).c) := rfl
  omega
/-- places in a way whose debtor is a house -/
def stt (b : Bk) (way : List Int) (h : Int) : List Nat := (List.range way.length).filter fun k => decide ((b.at (way.getD k 0)).d = h)
inductive Wy (b : Bk) (os : List Int) : List Int → List Int → Prop
  | stop {way k t} : stt b way (b.at (way.getLastD 0)).c = k :: t → Wy b os way (way.drop k)
  | go {way j t ring} : stt b way (b.at (way.getLastD 0)).c = [] → (os.filter fun i => decide ((b.at i).d = (b.at (way.getLastD 0)).c)) = j :: t → Wy b os (way ++ [j]) ring → Wy b os way ring
theorem Wy.uniq {b : Bk} {os way r r' : List Int} (h : Wy b os way r) (h' : Wy b os way r') : r = r' := by
  induction h with
  | stop e => cases h' with
    | stop e' => rw [e] at e'; cases e'; rfl
    | go e' _ _ => rw [e] at e'; cases e'
  | go e f _ ih => cases h' with
    | stop e' => rw [e] at e'; cases e'
    | go _ f' q =>
      rw [f] at f'
      cases f'
      exact ih q
structure Pth (b : Bk) (os way : List Int) : Prop where
  ne : way ≠ []
  sub : ∀ i ∈ way, i ∈ os
  nd : (way.map fun i => (b.at i).d).Nodup
  lead : ∀ k, k + 1 < way.length → (b.at (way.getD k 0)).c = (b.at (way.getD (k + 1) 0)).d
theorem pth_one {b : Bk} {os : List Int} {j : Int} (h : j ∈ os) : Pth b os [j] := ⟨by simp, fun i hi => by rw [List.mem_singleton.mp hi]; exact h, by simp, fun k hk => by simp at hk⟩
theorem stt_nil {b : Bk} {way : List Int} {h : Int} (e : stt b way h = []) : h ∉ way.map fun i => (b.at i).d := fun z => by
  obtain ⟨i, hi, q⟩ := List.mem_map.mp z
  obtain ⟨k, hk, e2⟩ := List.getElem_of_mem hi
  have : k ∈ stt b way h := List.mem_filter.mpr ⟨List.mem_range.mpr hk, decide_eq_true (by rw [List.getD_eq_getElem?_getD, List.getElem?_eq_getElem hk, Option.getD_some, e2]; exact q)⟩
  rw [e] at this; cases this
theorem getLastD_getD {way : List Int} (h : way ≠ []) : way.getLastD 0 = way.getD (way.length - 1) 0 := by
  rw [List.getD_eq_getElem?_getD, List.getLastD_eq_getLast?, List.getLast?_eq_getElem?]
theorem getD_app {l k : List Int} {i : Nat} (h : i < l.length) : (l ++ k).getD i 0 = l.getD i 0 := by rw [List.getD_eq_getElem?_getD, List.getElem?_append_left h, List.getD_eq_getElem?_getD]
theorem pth_more {b : Bk} {os way t : List Int} {j : Int} (W : Pth b os way) (e : stt b way (b.at (way.getLastD 0)).c = []) (f : (os.filter fun i => decide ((b.at i).d = (b.at (way.getLastD 0)).c)) = j :: t) : Pth b os (way ++ [j]) := by
  have hj : j ∈ os.filter fun i => decide ((b.at i).d = (b.at (way.getLastD 0)).c) := by rw [f]; simp
  obtain ⟨j1, j2⟩ := List.mem_filter.mp hj
  have j2 := of_decide_eq_true j2
  have hlen := List.length_pos_iff.mpr W.ne
  refine ⟨by simp, fun i hi => (List.mem_append.mp hi).elim (W.sub i) fun z => by rw [List.mem_singleton.mp z]; exact j1, ?_, fun k hk => ?_⟩
  · rw [List.map_append, List.nodup_append]
    refine ⟨W.nd, by simp, fun x hx y hy e2 => ?_⟩
    have : y = (b.at j).d := by simpa using hy
    rw [e2, this, j2] at hx
    exact stt_nil e hx
  · rw [List.length_append, List.length_singleton] at hk
    by_cases q : k + 1 < way.length
    · rw [getD_app (by omega), getD_app q]
      exact W.lead k q
    · have : k = way.length - 1 := by omega
      subst this
      rw [getD_app (by omega), ← getLastD_getD W.ne, ← j2]
      congr 2
      rw [List.getD_eq_getElem?_getD, List.getElem?_append_right (by omega), show way.length - 1 + 1 - way.length = 0 by omega]; rfl
theorem pth_len {b : Bk} (hb : BkW b) {os way : List Int} (hos : ∀ i ∈ os, 0 ≤ i ∧ i < b.m) (W : Pth b os way) : way.length ≤ b.n := by
  have := sub_len W.nd fun h hh => by
    obtain ⟨i, hi, rfl⟩ := List.mem_map.mp hh
    obtain ⟨i0, i1⟩ := hos i (W.sub i hi)
    obtain ⟨d0, d1, _⟩ := hb.at i0 i1
    exact Mem_all.mpr ⟨d0, d1⟩
  rw [List.length_map] at this
  exact this
theorem pth_ring {b : Bk} (hb : BkW b) {os way : List Int} (hos : ∀ i ∈ os, 0 ≤ i ∧ i < b.m) (W : Pth b os way) {k : Nat} {t : List Nat} (e : stt b way (b.at (way.getLastD 0)).c = k :: t) : RingOk b (way.drop k) ∧ k < way.length := by
  have hk : k ∈ stt b way (b.at (way.getLastD 0)).c := by rw [e]; simp
  obtain ⟨k1, k2⟩ := List.mem_filter.mp hk
  rw [List.mem_range] at k1
  have k2 := of_decide_eq_true k2
  have gd : ∀ j, (way.drop k).getD j 0 = way.getD (k + j) 0 := fun j => by rw [List.getD_eq_getElem?_getD, List.getElem?_drop, List.getD_eq_getElem?_getD]
  have hlen := List.length_pos_iff.mpr W.ne
  have two : k + 1 < way.length := by
    apply Classical.byContradiction
    intro z
    have : k = way.length - 1 := by omega
    rw [this, ← getLastD_getD W.ne] at k2
    have hm : way.getLastD 0 ∈ way := by
      rw [getLastD_getD W.ne, List.getD_eq_getElem?_getD, List.getElem?_eq_getElem (by omega)]
      exact List.getElem_mem _
    obtain ⟨i0, i1⟩ := hos _ (W.sub _ hm)
    obtain ⟨_, _, _, _, hne, _⟩ := hb.at i0 i1
    exact hne k2
  refine ⟨⟨by rw [List.length_drop]; omega, ?_, fun j hj => ?_⟩, k1⟩
  · have : ((way.drop k).map fun i => (b.at i).d).Nodup := by rw [List.map_drop]; exact W.nd.sublist (List.drop_sublist _ _)
    exact List.Pairwise.of_map _ (fun x y (h : (b.at x).d ≠ (b.at y).d) (e : x = y) => h (by rw [e])) this
  · rw [List.length_drop] at hj ⊢
    rw [gd, gd]
    by_cases q : j + 1 < way.length - k
    · rw [Nat.mod_eq_of_lt q, show k + (j + 1) = k + j + 1 by omega]
      exact W.lead _ (by omega)
    · have : j + 1 = way.length - k := by omega
      rw [this, Nat.mod_self, show k + j = way.length - 1 by omega, ← getLastD_getD W.ne, Nat.add_zero]
      exact k2.symm
/-- the least that is open along a ring -/
def mnL : List Int → Int
  | [] => 0
  | [x] => x
  | x :: y :: l => min x (mnL (y :: l))
theorem mnL_le : ∀ {l : List Int} {x : Int}, x ∈ l → mnL l ≤ x
  | [y], x, h => by rw [List.mem_singleton.mp h]; exact Int.le_refl _
  | y :: z :: l, x, h => by
    show min y (mnL (z :: l)) ≤ x
    rcases List.mem_cons.mp h with rfl | h
    · omega
    · have := mnL_le h; omega
theorem mnL_mem : ∀ {l : List Int}, l ≠ [] → mnL l ∈ l
  | [y], _ => by simp [mnL]
  | y :: z :: l, _ => by
    show min y (mnL (z :: l)) ∈ _
    have := mnL_mem (l := z :: l) (by simp)
    by_cases q : y ≤ mnL (z :: l)
    · rw [Int.min_eq_left q]; simp
    · rw [Int.min_eq_right (by omega)]; exact List.mem_cons_of_mem _ this
def rc (G P ring : List Int) : Int := mnL (ring.map fun i => at' G i.toNat - at' P i.toNat)
inductive Rings (b : Bk) (G : List Int) : List Int → List Mv → List Int → Prop
  | nil {P} : opn b G P = [] → Rings b G P [] P
  | cons {P j t ring l P'} : opn b G P = j :: t → Wy b (opn b G P) [j] ring → Rings b G (addc P ring (rc G P ring)) l P' → Rings b G P (.ring ring (rc G P ring) :: l) P'
theorem Rings.uniq {b : Bk} {G P P' P'' : List Int} {l l' : List Mv} (h : Rings b G P l P') (h' : Rings b G P l' P'') : l = l' ∧ P' = P'' := by
  induction h generalizing l' with
  | nil e => cases h' with
    | nil _ => exact ⟨rfl, rfl⟩
    | cons n _ _ => rw [e] at n; cases n
  | cons n w _ ih => cases h' with
    | nil e => rw [e] at n; cases n
    | cons m w' q =>
      rw [n] at m
      cases m
      cases w.uniq w'
      obtain ⟨e1, e2⟩ := ih q
      exact ⟨by rw [e1], e2⟩
theorem opn_ix {b : Bk} {G P : List Int} : ∀ i ∈ opn b G P, 0 ≤ i ∧ i < b.m := fun i hi => ⟨(opn_mem.mp hi).1, (opn_mem.mp hi).2.1⟩
theorem Wy.ring {b : Bk} (hb : BkW b) {os way r : List Int} (hos : ∀ i ∈ os, 0 ≤ i ∧ i < b.m) (W : Pth b os way) (h : Wy b os way r) : RingOk b r ∧ ∀ i ∈ r, i ∈ os := by
  induction h with
  | stop e => exact ⟨(pth_ring hb hos W e).1, fun i hi => W.sub i (List.mem_of_mem_drop hi)⟩
  | go e f _ ih => exact ih (pth_more W e f)
theorem ring_sti {b : Bk} (hb : BkW b) {G P ring : List Int} (hG : POk b G) (S : Sti b G P) (R : RingOk b ring) (hr : ∀ i ∈ ring, i ∈ opn b G P) :
    Sti b G (addc P ring (rc G P ring)) ∧ Fit b P (.ring ring (rc G P ring)) ∧ P.sum + 1 ≤ (addc P ring (rc G P ring)).sum := by
  have hm : ∀ i ∈ ring, 0 ≤ i ∧ i < b.m := fun i hi => opn_ix i (hr i hi)
  have hmP : ∀ i ∈ ring, 0 ≤ i ∧ i < P.length := fun i hi => by rw [S.ok.len]; exact hm i hi
  have ne : ring ≠ [] := fun z => by have := R.two; rw [z] at this; simp at this
  have c1 : 1 ≤ rc G P ring := by
    have := mnL_mem (l := ring.map fun i => at' G i.toNat - at' P i.toNat) (by simpa using ne)
    obtain ⟨i, hi, e⟩ := List.mem_map.mp this
    have := (opn_mem.mp (hr i hi)).2.2
    show 1 ≤ mnL _
    rw [← e]; omega
  have cle : ∀ i ∈ ring, rc G P ring ≤ at' G i.toNat - at' P i.toNat := fun i hi => mnL_le (List.mem_map.mpr ⟨i, hi, rfl⟩)
  generalize rc G P ring = c at *
  have key : ∀ j : Nat, at' (addc P ring c) j = at' P j + if (j : Int) ∈ ring then c else 0 := fun j => addc_at R.nd hmP
  have el := lft_ring (c := c) S.ok.len R hm
  have ole : Le (addc P ring c) G := fun j => by
    rw [key]
    split
    · rename_i q; have := cle _ q; rw [Int.toNat_natCast] at this; omega
    · have := S.le j; omega
  have ok : POk b (addc P ring c) := ⟨by rw [addc_len]; exact S.ok.len, fun i hi => by rw [key]; have := S.ok.lo i hi; split <;> omega, fun i hi => Int.le_trans (ole i) (hG.hi i hi)⟩
  refine ⟨⟨⟨ok, ole, fun h hh => by rw [el]; exact S.nn h hh⟩, fun i hi => ?_⟩, ⟨fun i hi => ⟨(hm i hi).1, (hm i hi).2, ?_⟩, c1, R⟩, ?_⟩
  · rw [el]
    obtain ⟨i0, i1, hlt⟩ := opn_mem.mp hi
    refine S.bare i (opn_mem.mpr ⟨i0, i1, ?_⟩)
    rw [key] at hlt
    split at hlt <;> omega
  · have h1 := cle i hi
    have h2 := hG.hi i.toNat (by have := hm i hi; omega)
    rw [show ((i.toNat : Nat) : Int) = i by have := hm i hi; omega] at h2
    omega
  · cases ring with
    | nil => exact absurd rfl ne
    | cons x l =>
      obtain ⟨n1, n2⟩ := List.nodup_cons.mp R.nd
      have hx := hmP x (by simp)
      have e : (P.set x.toNat (at' P x.toNat + c)).sum = P.sum + c := by rw [sum_set' _ _ _ (by omega)]; omega
      have h2 := sum_le (P.set x.toNat (at' P x.toNat + c)) (addc P (x :: l) c) (by rw [addc_len]; simp) fun j hj => by
        rw [key, at_set _ _ _ _ (by omega)]
        by_cases q : j = x.toNat
        · rw [if_pos q, if_pos (by rw [q]; simp; left; omega), q]; exact Int.le_refl _
        · rw [if_neg q]; split <;> omega
      omega
theorem Rings.ok {b : Bk} (hb : BkW b) {G P P' : List Int} {l : List Mv} (hG : POk b G) (S : Sti b G P) (h : Rings b G P l P') : P' = G ∧ Fits b P l P' ∧ P.sum + l.length ≤ P'.sum := by
  induction h with
  | nil e =>
    refine ⟨?_, .nil, by simp⟩
    refine le_anti S.ok hG S.le fun i => ?_
    by_cases hi : i < b.m
    · refine Int.not_lt.mp fun z => ?_
      have := opn_mem (b := b).mpr ⟨(by omega : 0 ≤ (i : Int)), by omega, by rw [Int.toNat_natCast]; exact z⟩
      rw [e] at this; cases this
    · rw [at_out (by rw [hG.len]; omega), at_out (by rw [S.ok.len]; omega)]; exact Int.le_refl _
  | cons n w _ ih =>
    obtain ⟨R, hr⟩ := w.ring hb opn_ix (pth_one (by rw [n]; simp))
    obtain ⟨q1, q2, q3⟩ := ring_sti hb hG S R hr
    obtain ⟨r1, r2, r3⟩ := ih q1
    exact ⟨r1, .cons q2 r2, by rw [List.length_cons]; omega⟩
/-- an order to the best -/
def Ord (b : Bk) (l : List Mv) : Prop := ∃ l1 P1 l2, Pays b (bst b) (zeroP b) l1 P1 ∧ Rings b (bst b) P1 l2 (bst b) ∧ l = l1 ++ l2
theorem Ord.uniq {b : Bk} {l l' : List Mv} (h : Ord b l) (h' : Ord b l') : l = l' := by
  obtain ⟨l1, P1, l2, a1, a2, rfl⟩ := h
  obtain ⟨k1, Q1, k2, b1, b2, rfl⟩ := h'
  obtain ⟨rfl, rfl⟩ := a1.uniq b1
  rw [(a2.uniq b2).1]
theorem lft_zero {b : Bk} (hb : BkW b) : lft b (zeroP b) = b.cash := by
  have z : ∀ l, sumAt (zeroP b) l = 0 := fun l => zero_sum fun x hx => by
    obtain ⟨i, _, rfl⟩ := List.mem_map.mp hx
    unfold zeroP; exact at_zeros _ _
  refine ext_at _ _ (by rw [lft_len]; rfl) fun k hk => ?_
  rw [lft_len] at hk
  have h1 := lft_at (b := b) (P := zeroP b) (h := (k : Int)) (Mem_all.mpr ⟨by omega, by omega⟩)
  rw [Int.toNat_natCast] at h1
  rw [h1]
  unfold mean
  rw [z, z, Int.toNat_natCast]; omega
theorem lft_nn' {b : Bk} (hb : BkW b) {P : List Int} (hP : POk b P) (hf : T b (allH b) P = P) : ∀ h ∈ allH b, 0 ≤ at' (lft b P) h.toNat := fun h hh => by
  obtain ⟨h0, h1⟩ := Mem_all.mp hh
  have := paid_le hb hP hf h0 h1
  rw [lft_at hh]; omega
theorem bet_zero {b : Bk} (hb : BkW b) : Bet b (bst b) (zeroP b) := ⟨zero_ok hb, zero_le (Bst_ok hb), fun h hh => by rw [lft_zero hb]; exact (cash_at hb h).1⟩
theorem Ord.ok {b : Bk} (hb : BkW b) {l : List Mv} (h : Ord b l) : Fits b (zeroP b) l (bst b) ∧ (l.length : Int) ≤ (bst b).sum := by
  obtain ⟨l1, P1, l2, a1, a2, rfl⟩ := h
  obtain ⟨B, f1, s1, e⟩ := a1.ok hb (Bst_ok hb) (bet_zero hb)
  obtain ⟨_, f2, s2⟩ := a2.ok hb (Bst_ok hb) (npay_none hb B e)
  refine ⟨f1.append f2, ?_⟩
  have : (zeroP b).sum = 0 := by unfold zeroP; exact sum_zeros _
  rw [List.length_append]; omega
end Mx

/-! ### a book within another one -/
namespace Mx
structure Emb (b b' : Bk) (f e : Int → Int) : Prop where
  fh : ∀ h ∈ allH b, f h ∈ allH b'
  finj : ∀ h ∈ allH b, ∀ h' ∈ allH b, f h = f h' → h = h'
  em : ∀ i : Int, 0 ≤ i → i < b.m → 0 ≤ e i ∧ e i < b'.m
  einj : ∀ i j : Int, 0 ≤ i → i < b.m → 0 ≤ j → j < b.m → e i = e j → i = j
  ca : ∀ i : Int, 0 ≤ i → i < b.m → (b'.at (e i)).d = f (b.at i).d ∧ (b'.at (e i)).a = (b.at i).a
  cash : ∀ h ∈ allH b, at' b'.cash (f h).toNat = at' b.cash h.toNat
  grp : ∀ h ∈ allH b, ∀ r, grp b' (f h) r = (grp b h r).map e
  of : ∀ h ∈ allH b, (ofc b' (f h)).Perm ((ofc b h).map e)
/-- the same coins at the same claims -/
def Pe (b : Bk) (e : Int → Int) (P P' : List Int) : Prop := ∀ i : Int, 0 ≤ i → i < b.m → at' P' (e i).toNat = at' P i.toNat
def mv1 (e : Int → Int) (z : Int × Int) : Int × Int := (e z.1, z.2)
section
variable {b b' : Bk} {f e : Int → Int}
theorem Emb.amts (E : Emb b b' f e) {g : List Int} (hg : ∀ i ∈ g, 0 ≤ i ∧ i < b.m) : amts b' (g.map e) = amts b g := by
  unfold Mx.amts
  rw [List.map_map]
  exact List.map_congr_left fun i hi => (E.ca i (hg i hi).1 (hg i hi).2).2
theorem zip_mv1 {e : Int → Int} : ∀ g p : List Int, (g.map e).zip p = (g.zip p).map (mv1 e)
  | [], _ => rfl
  | _ :: _, [] => rfl
  | x :: g, y :: p => by rw [List.map_cons, List.zip_cons_cons, List.zip_cons_cons, List.map_cons, zip_mv1 g p]; rfl
theorem Emb.payG (E : Emb b b' f e) : ∀ {gs : List (List Int)} {m : Int}, (∀ g ∈ gs, ∀ i ∈ g, 0 ≤ i ∧ i < b.m) → payG b' (gs.map fun g => g.map e) m = (payG b gs m).map (mv1 e)
  | [], _, _ => rfl
  | g :: gs, m, h => by
    have ea := E.amts (g := g) (h g (by simp))
    show (g.map e).zip (sh (Mx.amts b' (g.map e)) m) ++ Mx.payG b' (gs.map fun g => g.map e) (m - (sh (Mx.amts b' (g.map e)) m).sum) = (g.zip (sh (Mx.amts b g) m) ++ Mx.payG b gs (m - (sh (Mx.amts b g) m).sum)).map (mv1 e)
    rw [ea, Emb.payG E fun g' hg' => h g' (List.mem_cons_of_mem _ hg'), List.map_append, zip_mv1]
theorem Emb.payP (E : Emb b b' f e) {h : Int} (hh : h ∈ allH b) (m : Int) : payP b' (f h) m = (payP b h m).map (mv1 e) := by
  have := E.payG (gs := ranks9.map (Mx.grp b h)) (m := m) fun g hg i hi => by
    obtain ⟨r, _, rfl⟩ := List.mem_map.mp hg
    obtain ⟨i0, i1, _⟩ := on_mem.mp (grp_sub i hi)
    exact ⟨i0, i1⟩
  unfold Mx.payP
  rw [← this, List.map_map]
  congr 1
  exact List.map_congr_left fun r _ => E.grp h hh r
theorem lookup_mv1 {e : Int → Int} {i : Int} : ∀ {l : List (Int × Int)}, (∀ z ∈ l, e i = e z.1 → i = z.1) → (l.map (mv1 e)).lookup (e i) = l.lookup i
  | [], _ => rfl
  | (k, v) :: l, h => by
    show ((e k, v) :: l.map (mv1 e)).lookup (e i) = _
    rw [List.lookup_cons, List.lookup_cons, lookup_mv1 fun z hz => h z (List.mem_cons_of_mem _ hz)]
    by_cases q : i = k
    · subst q; simp
    · have q2 : e i ≠ e k := fun z => q (h (k, v) (by simp) z)
      rw [show (i == k) = false by simpa using q, show (e i == e k) = false by simpa using q2]
theorem Emb.coin (E : Emb b b' f e) (hb : BkW b) {h : Int} (hh : h ∈ allH b) {m : Int} (m0 : 0 ≤ m) {i : Int} (i0 : 0 ≤ i) (i1 : i < b.m) : coin b' (f h) m (e i) = coin b h m i := by
  unfold Mx.coin
  rw [E.payP hh, lookup_mv1 fun z hz q => ?_]
  have : z.1 ∈ on b h := (payP_keys hb h m0).mem_iff.mp (List.mem_map.mpr ⟨z, hz, rfl⟩)
  obtain ⟨j0, j1, _⟩ := on_mem.mp this
  exact E.einj i z.1 i0 i1 j0 j1 q
theorem Emb.on (E : Emb b b' f e) (hb : BkW b) (hb' : BkW b') {h : Int} (hh : h ∈ allH b) : (on b' (f h)).Perm ((on b h).map e) := by
  have h1 := keys_perm hb' (f h)
  have h2 := (keys_perm hb h).map e
  refine h1.symm.trans (List.Perm.trans ?_ h2)
  rw [List.map_flatten, List.map_map]
  rw [show (ranks9.map (Mx.grp b' (f h))) = ranks9.map (List.map e ∘ Mx.grp b h) from List.map_congr_left fun r _ => E.grp h hh r]
theorem Emb.owe (E : Emb b b' f e) (hb : BkW b) (hb' : BkW b') {h : Int} (hh : h ∈ allH b) : owe b' (f h) = owe b h := by
  unfold Mx.owe
  rw [sum_perm ((E.on hb hb' hh).map fun i => (b'.at i).a), List.map_map]
  congr 1
  refine List.map_congr_left fun i hi => ?_
  obtain ⟨i0, i1, _⟩ := on_mem.mp hi
  exact (E.ca i i0 i1).2
theorem sumAt_perm {P l k : List Int} (h : l.Perm k) : sumAt P l = sumAt P k := sum_perm (h.map fun i => at' P i.toNat)
theorem sumAt_pe {P P' : List Int} (hP : Pe b e P P') : ∀ {l : List Int}, (∀ i ∈ l, 0 ≤ i ∧ i < b.m) → sumAt P' (l.map e) = sumAt P l
  | [], _ => rfl
  | x :: l, h => by
    have ih := sumAt_pe hP (l := l) fun i hi => h i (List.mem_cons_of_mem _ hi)
    have h1 := hP x (h x (by simp)).1 (h x (by simp)).2
    unfold sumAt at *
    simp only [List.map_cons, List.sum_cons]
    rw [ih, h1]
theorem Emb.sumOn (E : Emb b b' f e) (hb : BkW b) (hb' : BkW b') {h : Int} (hh : h ∈ allH b) {P P' : List Int} (hP : Pe b e P P') : sumAt P' (Mx.on b' (f h)) = sumAt P (Mx.on b h) := by
  rw [sumAt_perm (E.on hb hb' hh), sumAt_pe hP fun i hi => ⟨(on_mem.mp hi).1, (on_mem.mp hi).2.1⟩]
theorem Emb.sumOf (E : Emb b b' f e) {h : Int} (hh : h ∈ allH b) {P P' : List Int} (hP : Pe b e P P') : sumAt P' (ofc b' (f h)) = sumAt P (ofc b h) := by
  rw [sumAt_perm (E.of h hh), sumAt_pe hP fun i hi => ⟨(ofc_mem.mp hi).1, (ofc_mem.mp hi).2.1⟩]
theorem Emb.mean (E : Emb b b' f e) {h : Int} (hh : h ∈ allH b) {P P' : List Int} (hP : Pe b e P P') : mean b' (f h) P' = mean b h P := by
  unfold Mx.mean
  rw [E.cash h hh, E.sumOf hh hP]
theorem Emb.T (E : Emb b b' f e) (hb : BkW b) {hs hs' : List Int} (hh : ∀ h ∈ allH b, h ∈ hs ↔ f h ∈ hs') {P P' : List Int} (nn : ∀ i, 0 ≤ at' P i) (hP : Pe b e P P') : Pe b e (T b hs P) (T b' hs' P') := fun i i0 i1 => by
  obtain ⟨e0, e1⟩ := E.em i i0 i1
  obtain ⟨d0, d1, _⟩ := hb.at i0 i1
  have hd := Mem_all.mpr ⟨d0, d1⟩
  rw [T_at (by omega), T_at (by omega), show (((e i).toNat : Nat) : Int) = e i by omega, show ((i.toNat : Nat) : Int) = i by omega, (E.ca i i0 i1).1, E.mean hd hP, hP i i0 i1, E.coin hb hd (mean_nn hb _ nn) i0 i1]
  have := hh _ hd
  by_cases q : (b.at i).d ∈ hs
  · rw [if_pos q, if_pos (this.mp q)]
  · rw [if_neg q, if_neg fun z => q (this.mpr z)]
theorem Emb.it (E : Emb b b' f e) (hb : BkW b) {hs hs' : List Int} (hh : ∀ h ∈ allH b, h ∈ hs ↔ f h ∈ hs') {P P' : List Int} (ok : POk b P) (hP : Pe b e P P') : ∀ n, Pe b e (it b hs P n) (it b' hs' P' n)
  | 0 => hP
  | n + 1 => E.T hb hh (it_ok hb hs ok n).nn (E.it hb hh ok hP n)
theorem Emb.full (E : Emb b b' f e) : Pe b e (fullP b) (fullP b') := fun i i0 i1 => by
  obtain ⟨e0, e1⟩ := E.em i i0 i1
  rw [full_at (by omega), full_at (by omega), show (((e i).toNat : Nat) : Int) = e i by omega, show ((i.toNat : Nat) : Int) = i by omega]
  exact (E.ca i i0 i1).2
theorem Emb.zero (E : Emb b b' f e) : Pe b e (zeroP b) (zeroP b') := fun i _ _ => by unfold zeroP; rw [at_zeros, at_zeros]
theorem Emb.all (E : Emb b b' f e) : ∀ h ∈ allH b, h ∈ allH b ↔ f h ∈ allH b' := fun h hh => ⟨fun _ => E.fh h hh, fun _ => hh⟩
theorem Emb.bst (E : Emb b b' f e) (hb : BkW b) : Pe b e (bst b) (bst b') := E.it hb E.all (full_ok hb) E.full _
theorem Emb.wst (E : Emb b b' f e) (hb : BkW b) : Pe b e (wst b) (wst b') := E.it hb E.all (zero_ok hb) E.zero _
theorem Emb.flim (E : Emb b b' f e) (hb : BkW b) {F F' : List Int} (hF : ∀ h ∈ allH b, h ∈ F ↔ f h ∈ F') : Pe b e (flim b F) (flim b' F') := E.it hb hF (full_ok hb) E.full _
theorem Emb.lft (E : Emb b b' f e) (hb : BkW b) (hb' : BkW b') {h : Int} (hh : h ∈ allH b) {P P' : List Int} (hP : Pe b e P P') : at' (lft b' P') (f h).toNat = at' (lft b P) h.toNat := by
  rw [lft_at (E.fh h hh), lft_at hh, E.mean hh hP, E.sumOn hb hb' hh hP]
theorem Emb.fail (E : Emb b b' f e) (hb : BkW b) (hb' : BkW b') {h : Int} (hh : h ∈ allH b) : Fail b' (f h) ↔ Fail b h := by
  unfold Fail
  rw [E.mean hh (E.bst hb), E.owe hb hb' hh]
theorem Emb.wave (E : Emb b b' f e) (hb : BkW b) (hb' : BkW b') {F F' : List Int} (hF : ∀ h ∈ allH b, h ∈ F ↔ f h ∈ F') {h : Int} (hh : h ∈ allH b) : f h ∈ wave b' F' ↔ h ∈ wave b F := by
  rw [wave_mem, wave_mem, E.mean hh (E.flim hb hF), E.owe hb hb' hh, hF h hh]
  have := E.fh h hh
  exact ⟨fun z => ⟨hh, z.2⟩, fun z => ⟨this, z.2⟩⟩
theorem put_n (b : Bk) (h c : Int) : (b.put h c).n = b.n := by unfold Bk.put Bk.wc Bk.n; simp
theorem put_all (b : Bk) (h c : Int) : allH (b.put h c) = allH b := by unfold allH; rw [put_n]
theorem Emb.put (E : Emb b b' f e) {h : Int} (hh : h ∈ allH b) (c : Int) : Emb (b.put h c) (b'.put (f h) c) f e where
  fh := fun x hx => by rw [put_all] at hx ⊢; exact E.fh x hx
  finj := fun x hx y hy => E.finj x (by rw [put_all] at hx; exact hx) y (by rw [put_all] at hy; exact hy)
  em := E.em
  einj := E.einj
  ca := E.ca
  cash := fun x hx => by
    rw [put_all] at hx
    obtain ⟨a0, a1⟩ := Mem_all.mp hh
    obtain ⟨b0, b1⟩ := Mem_all.mp (E.fh h hh)
    obtain ⟨x0, x1⟩ := Mem_all.mp hx
    obtain ⟨y0, y1⟩ := Mem_all.mp (E.fh x hx)
    have l1 : h.toNat < b.cash.length := by unfold Bk.n at a1; omega
    have l2 : (f h).toNat < b'.cash.length := by unfold Bk.n at b1; omega
    show at' (b'.cash.set (f h).toNat c) (f x).toNat = at' (b.cash.set h.toNat c) x.toNat
    rw [at_set _ _ _ _ l1, at_set _ _ _ _ l2]
    by_cases q : x = h
    · subst q; rw [if_pos rfl, if_pos rfl]
    · rw [if_neg (fun z => q (E.finj x hx h hh (by omega))), if_neg (by omega)]
      exact E.cash x hx
  grp := fun x hx r => E.grp x (by rw [put_all] at hx; exact hx) r
  of := fun x hx => E.of x (by rw [put_all] at hx; exact hx)
theorem Emb.need (E : Emb b b' f e) (hb : BkW b) (hb' : BkW b') {h k : Int} (hh : h ∈ allH b) (n : Need b h k) (h1 : at' b.cash h.toNat + k ≤ 100000) : Need b' (f h) k := by
  have c0 := (cash_at hb h).1
  have key : ∀ j, 0 ≤ j → at' b.cash h.toNat + j ≤ 100000 → (Fail (b'.put (f h) (at' b'.cash (f h).toNat + j)) (f h) ↔ Fail (b.put h (at' b.cash h.toNat + j)) h) := fun j j0 j1 => by
    rw [E.cash h hh]
    exact (E.put hh _).fail (put_ok hb (by omega) j1) (put_ok hb' (by omega) j1) (by rw [put_all]; exact hh)
  exact ⟨n.nn, by rw [E.owe hb hb' hh]; exact n.up, fun z => n.no ((key k n.nn h1).mp z), fun j j0 j1 => (key j j0 (by omega)).mpr (n.lo j j0 j1)⟩
end
end Mx

namespace VS
open PySem PySem.Spec PyProof.Rows L2
open Mx (Cl Bk BkOk BkW ClOk on owe grp payG payP ranks9 pick at' sh coin ofc POk sumAt mean lft T Le it Way lim fullP zeroP allH bst wst)
/-! ### helpers -/
theorem iteF' {k : Bool} {x y : Prop} (h : k = false) (hy : y) : if k = true then x else y := by rw [h]; exact hy
theorem iteT' {k : Bool} {x y : Prop} (h : k = true) (hy : x) : if k = true then x else y := by rw [h]; exact hy
theorem iteC {k k' : Bool} {x y : Prop} (h : k = k') (hy : if k' = true then x else y) : if k = true then x else y := by rw [h]; exact hy
theorem iteNq {k : Bool} {x y : Prop} (h : k = true) (hy : y) : if (!k) = true then x else y := by rw [h]; exact hy
theorem iteNf {k : Bool} {x y : Prop} (h : k = false) (hx : x) : if (!k) = true then x else y := by rw [h]; exact hx
theorem eqv_same_int {i j : Int} (h : i = j) : (D.int i).eqv (.int j) = true := by rw [eqv_int, decide_eq_true h]
theorem eqv_same_ints {i j : List Int} (h : i = j) : (D.lst (i.map D.int)).eqv (.lst (j.map D.int)) = true := by rw [eqv_ints, decide_eq_true h]
theorem cmp_bl (k : Bool) : (D.bl k).cmp := ⟨rfl, by show 0 ≤ 64; decide⟩
theorem eqv_bl (k l : Bool) : (D.bl k).eqv (.bl l) = (k == l) := by cases k <;> cases l <;> rfl
theorem eqv_nil (l : List Int) : (D.lst (l.map D.int)).eqv (.lst []) = decide (l = []) := eqv_ints l []
theorem eqv_nil_t {l : List Int} (h : l = []) : (D.lst (l.map D.int)).eqv (.lst []) = true := by rw [eqv_nil, decide_eq_true h]
theorem eqv_nil_f {l : List Int} (h : l ≠ []) : (D.lst (l.map D.int)).eqv (.lst []) = false := by rw [eqv_nil, decide_eq_false h]
/-- a comprehension that takes nothing -/
theorem lc_none {ω : Type} {C : Cn ω} {tg : Tg} {fr : Bool} {tt : BM C} {te : EM C} {Γ : List Sl} {K : Md → List D → ω → Prop} {ds : List D} {w : ω}
    (hs : ∀ (k : Nat) (d : D), ds[k]? = some d → ∀ (R : List Sl → Bool → ω → Prop), (∀ Γ', R Γ' false w) → tg.asg fr d Γ fun Γ' => tt Γ' w (R Γ')) (hd : K .F [] w) : lcLoop tg fr tt te Γ K ds w .F [] := by
  refine lc_by (fun k w' m acc => w' = w ∧ m = .F ∧ acc = []) (fun k d w' m acc N h1 h2 h3 => ?_) (fun w' m acc h => ?_) ⟨rfl, rfl, rfl⟩
  · obtain ⟨rfl, rfl, rfl⟩ := h2
    exact hs k d h1 (fun Γ' b w1 => if b = true then te Γ' w1 fun md e w2 => md.ok = true ∧ ([] : List D).length < 1000000 ∧ N w2 (Md.F.max (nm md e)) ([] ++ [e]) else N w1 .F []) fun Γ' => iteF (h3 _ _ _ ⟨rfl, rfl, rfl⟩)
  · obtain ⟨rfl, rfl, rfl⟩ := h
    exact hd
theorem asg_add_ints {ω : Type} {C : Cn ω} {E : EndM C} {Γ : List Sl} {w : ω} {i j k : Nat} {xs ys : List Int} {f1 f2 : Bool} (h1 : Γ[i]? = some (.val f1 (.lst (xs.map D.int)))) (h2 : Γ[j]? = some (.val f2 (.lst (ys.map D.int)))) (hl : xs.length + ys.length ≤ 1000000)
    (hE : E.nx (Γ.set k (.val true (.lst ((xs ++ ys).map D.int)))) w) : (asgM (.nm k) (binM addF (nameM i) (nameM j)) : SM C) E Γ w := by
  unfold asgM binM nameM
  rw [h1]
  dsimp only
  rw [h2]
  dsimp only
  exact add_ints hl ⟨rfl, hE⟩
theorem cut_lo {l : List D} {h : Int} (h0 : 0 ≤ h) (h1 : h ≤ l.length) : cutD l none (some h) = l.take h.toNat := by
  obtain ⟨k, rfl⟩ : ∃ k : Nat, h = (k : Int) := ⟨h.toNat, by omega⟩
  unfold cutD
  rw [HT.sIx_none, HT.sIx_nat, List.drop_zero, Nat.sub_zero, Int.toNat_natCast, Nat.min_eq_left (by omega)]
theorem cut_hi {l : List D} {h : Int} (h0 : 0 ≤ h) (h1 : h ≤ l.length) : cutD l (some h) none = l.drop h.toNat := by
  obtain ⟨k, rfl⟩ : ∃ k : Nat, h = (k : Int) := ⟨h.toNat, by omega⟩
  unfold cutD
  rw [HT.sIx_none, HT.sIx_nat, Int.toNat_natCast, Nat.min_eq_left (by omega)]
  exact List.take_of_length_le (by rw [List.length_drop]; omega)
/-- of the things g x, x in l, those with p x, made f x -/
theorem lc_gen {α : Type} {ω : Type} {C : Cn ω} {tg : Tg} {fr : Bool} {tt : BM C} {te : EM C} {Γ : List Sl} {K : Md → List D → ω → Prop} (p : α → Bool) (g f : α → D) {l : List α} {w : ω} (hl : l.length < 1000000) (hf : ∀ x ∈ l, (f x).flat = true)
    (hs : ∀ x ∈ l, ∀ (R : Bool → ω → Prop), R (p x) w → tg.asg fr (g x) Γ fun Γ' => tt Γ' w R) (he : ∀ x ∈ l, p x = true → ∀ (R : Md → D → ω → Prop), (∀ md, md.ok = true → R md (f x) w) → tg.asg fr (g x) Γ fun Γ' => te Γ' w R)
    (ht : ∀ x ∈ l, ∃ Γ' : List Sl, ∀ P : List Sl → Prop, tg.asg fr (g x) Γ P ↔ P Γ') (hd : K .F ((l.filter p).map f) w) : lcLoop tg fr tt te Γ K (l.map g) w .F [] := by
  refine lc_by (fun k w' m acc => w' = w ∧ m = .F ∧ k ≤ l.length ∧ acc = ((l.take k).filter p).map f) (fun k d w' m acc N h1 h2 h3 => ?_) (fun w' m acc h => ?_) ⟨rfl, rfl, Nat.zero_le _, rfl⟩
  · obtain ⟨rfl, rfl, hk, rfl⟩ := h2
    rw [List.getElem?_map] at h1
    cases hi : l[k]? with
    | none => rw [hi] at h1; cases h1
    | some x =>
    rw [hi] at h1
    cases h1
    have hm := List.mem_of_getElem? hi
    have hlt : k < l.length := (List.getElem?_eq_some_iff.mp hi).1
    obtain ⟨Γ', hΓ⟩ := ht x hm
    have htk : l.take (k + 1) = l.take k ++ [x] := by rw [List.take_add_one, hi]; rfl
    refine (hΓ _).mpr ((hΓ _).mp (hs x hm _ ?_))
    have hfl : ((l.take k).filter p).length ≤ k := Nat.le_trans (List.length_filter_le _ _) (by rw [List.length_take]; omega)
    refine ite2 (fun q => ?_) (fun q => ?_)
    · exact (hΓ _).mp (he x hm q _ fun md ho => ⟨ho, by rw [List.length_map]; omega, h3 _ _ _ ⟨rfl, by unfold nm; rw [if_pos (hf x hm)]; rfl, hlt, by rw [htk, List.filter_append, List.filter_cons_of_pos q, List.map_append]; rfl⟩⟩)
    · exact h3 _ _ _ ⟨rfl, rfl, hlt, by rw [htk, List.filter_append, List.filter_cons_of_neg (by simpa using q)]; simp⟩
  · obtain ⟨rfl, rfl, _, rfl⟩ := h
    rw [List.length_map, List.take_length]; exact hd
theorem nm_bk (m : Md) (b : Bk) : nm m (bkD b) = .F := by unfold nm; rw [if_pos (flat_bk b)]
theorem jn_2bk (b c : Bk) (m1 m2 : Md) : jn [(m1, bkD b), (m2, bkD c)] = .F := by
  show (nm m1 (bkD b)).max ((nm m2 (bkD c)).max .F) = .F
  rw [nm_bk, nm_bk]; rfl
theorem short_mem {b : Bk} (hb : BkW b) {h : Int} : h ∈ shortL b (bst b) ↔ h ∈ allH b ∧ Mx.Fail b h := by
  unfold shortL
  rw [List.mem_filter, decide_eq_true_eq]
  exact and_congr_right fun hh => Mx.short_iff hb (Mx.Bst_ok hb) (Mx.Bst_fix hb) hh
theorem owe_full {b : Bk} (h : Int) : owe b h = sumAt (fullP b) (on b h) := by
  rw [sumAt_full fun i hi => (by obtain ⟨h0, h1, _⟩ := Mx.on_mem.mp hi; exact ⟨h0, h1⟩)]; rfl
theorem st_succ {b : Bk} {P : List Int} {k : Nat} (hk : k < b.n) : (((allH b).take (k + 1)).filter fun h => decide (sumAt P (on b h) < owe b h)) = if sumAt P (on b k) < owe b k then (((allH b).take k).filter fun h => decide (sumAt P (on b h) < owe b h)) ++ [(k : Int)] else (((allH b).take k).filter fun h => decide (sumAt P (on b h) < owe b h)) := by
  rw [show (allH b).take (k + 1) = (allH b).take k ++ [(k : Int)] by rw [List.take_add_one, all_get hk]; rfl, List.filter_append]
  by_cases q : sumAt P (on b k) < owe b k
  · rw [if_pos q, List.filter_cons_of_pos (by simpa using q)]; rfl
  · rw [if_neg q, List.filter_cons_of_neg (by simpa using q)]; simp
theorem short_len (b : Bk) (P : List Int) : (shortL b P).length ≤ b.n := by rw [← all_len b]; exact List.length_filter_le _ _
end VS

/-! ### waves, papers: what they come to -/
namespace Mx
theorem Wv.facts {b : Bk} (hb : BkW b) {F : List Int} {l : List (List Int)} (h : Wv b F l) (hn : F.Nodup) (hF : Fell b F) : (F ++ l.flatten).Nodup ∧ Fell b (F ++ l.flatten) ∧ wave b (F ++ l.flatten) = [] ∧ ∀ w ∈ l, w ≠ [] ∧ w.Pairwise (· < ·) := by
  induction h with
  | nil e => simpa using ⟨hn, hF, e⟩
  | cons n _ ih =>
    rename_i F l _
    obtain ⟨h1, h2, h3, h4⟩ := ih (wave_nd hn) (hF.more hb fun x hx => ⟨(wave_mem.mp hx).1, (wave_mem.mp hx).2.2⟩)
    have e : F ++ (wave b F :: l).flatten = F ++ wave b F ++ l.flatten := by rw [List.flatten_cons, List.append_assoc]
    rw [e]
    refine ⟨h1, h2, h3, fun w hw => ?_⟩
    rcases List.mem_cons.mp hw with rfl | hw
    · exact ⟨n, wave_up b F⟩
    · exact h4 w hw
theorem flat_len : ∀ {l : List (List Int)}, (∀ w ∈ l, w ≠ []) → l.length ≤ l.flatten.length
  | [], _ => Nat.le_refl _
  | w :: l, h => by
    have := flat_len (l := l) fun x hx => h x (List.mem_cons_of_mem _ hx)
    have h1 := List.length_pos_iff.mpr (h w (by simp))
    rw [List.flatten_cons, List.length_append, List.length_cons]; omega
theorem wv0 {b : Bk} (hb : BkW b) {l : List (List Int)} (h : Wv b [] l) : l.flatten.Nodup ∧ Fell b l.flatten ∧ Done b l.flatten ∧ (∀ w ∈ l, w ≠ [] ∧ w.Pairwise (· < ·)) ∧ l.flatten.length ≤ b.n ∧ l.length ≤ b.n := by
  obtain ⟨h1, h2, h3, h4⟩ := h.facts hb (by simp) (fun x hx => by cases hx)
  rw [List.nil_append] at h1 h2 h3
  have h5 := sub_len h1 fun x hx => (h2 x hx).1
  exact ⟨h1, h2, wave_done h3, h4, h5, Nat.le_trans (flat_len fun w hw => (h4 w hw).1) h5⟩
/-- all that fell are those that fail -/
theorem wv_fail {b : Bk} (hb : BkW b) {l : List (List Int)} (h : Wv b [] l) {x : Int} : x ∈ l.flatten ↔ x ∈ allH b ∧ Fail b x := by
  obtain ⟨_, h2, h3, _⟩ := wv0 hb h
  constructor
  · exact fun hx => ⟨(h2 x hx).1, (h2 x hx).2⟩
  · exact fun hx => (fell_done hb h2 h3 hx.1).mpr hx.2
theorem Pp.facts {b : Bk} (hb : BkW b) {F : List Int} {l : List (Int × Int × Int)} (h : Pp b F l) (hn : F.Nodup) (hF : Fell b F) : (F ++ l.map (·.1)).Nodup ∧ Fell b (F ++ l.map (·.1)) ∧ wave b (F ++ l.map (·.1)) = [] := by
  induction h with
  | nil e => simpa using ⟨hn, hF, e⟩
  | cons n _ ih =>
    rename_i F h t l _
    have hm := wave_mem.mp (show h ∈ wave b F by rw [n]; simp)
    obtain ⟨h1, h2, h3⟩ := ih (List.nodup_append.mpr ⟨hn, by simp, fun x hx y hy e => hm.2.1 (by rw [List.mem_singleton.mp hy] at e; rw [← e]; exact hx)⟩) (hF.more hb fun x hx => by rw [List.mem_singleton.mp hx]; exact ⟨hm.1, hm.2.2⟩)
    have e : F ++ ((h, mean b h (flim b F), owe b h) :: l).map (·.1) = F ++ [h] ++ l.map (·.1) := by simp
    rw [e]
    exact ⟨h1, h2, h3⟩
theorem pp0 {b : Bk} (hb : BkW b) {l : List (Int × Int × Int)} (h : Pp b [] l) : (l.map (·.1)).Nodup ∧ Fell b (l.map (·.1)) ∧ Done b (l.map (·.1)) ∧ l.length ≤ b.n := by
  obtain ⟨h1, h2, h3⟩ := h.facts hb (by simp) (fun x hx => by cases hx)
  rw [List.nil_append] at h1 h2 h3
  refine ⟨h1, h2, wave_done h3, ?_⟩
  have := sub_len h1 fun x hx => (h2 x hx).1
  rw [List.length_map] at this; exact this
theorem pp_fail {b : Bk} (hb : BkW b) {l : List (Int × Int × Int)} (h : Pp b [] l) {x : Int} : x ∈ l.map (·.1) ↔ x ∈ allH b ∧ Fail b x := by
  obtain ⟨_, h2, h3, _⟩ := pp0 hb h
  constructor
  · exact fun hx => ⟨(h2 x hx).1, (h2 x hx).2⟩
  · exact fun hx => (fell_done hb h2 h3 hx.1).mpr hx.2
end Mx

/-! ### books as texts -/
namespace VS
open PySem PySem.Spec PyProof.Rows L2
open Mx (Cl Bk BkOk BkW)
def nS (n : Int) : Str := toString n
theorem tl_nS {n : Int} (h : 0 ≤ n) : TL.tl (nS n) = TL.numL n.toNat := by
  have := TL.tl_num n.toNat
  rw [show ((n.toNat : Nat) : Int) = n by omega] at this
  exact this
theorem joinL_nil (S : List Nat) : TL.joinL S [] = [] := rfl
theorem joinL_one (S p : List Nat) : TL.joinL S [p] = p := rfl
theorem joinL_cons (S p q : List Nat) (r : List (List Nat)) : TL.joinL S (p :: q :: r) = p ++ S ++ TL.joinL S (q :: r) := by rw [List.append_assoc]; rfl
theorem joinL_mem {S : List Nat} {c : Nat} : ∀ {ps : List (List Nat)}, c ∈ TL.joinL S ps → c ∈ S ∨ ∃ p ∈ ps, c ∈ p
  | [], h => by cases h
  | [p], h => .inr ⟨p, List.mem_cons_self .., h⟩
  | p :: q :: r, h => by
    rw [joinL_cons, List.mem_append, List.mem_append] at h
    rcases h with (h | h) | h
    · exact .inr ⟨p, List.mem_cons_self .., h⟩
    · exact .inl h
    · rcases joinL_mem h with h | ⟨x, hx, hc⟩
      · exact .inl h
      · exact .inr ⟨x, List.mem_cons_of_mem _ hx, hc⟩
theorem joinL_len {S : List Nat} {k : Nat} : ∀ {ps : List (List Nat)}, (∀ p ∈ ps, p.length ≤ k) → (TL.joinL S ps).length ≤ ps.length * (k + S.length)
  | [], _ => by show 0 ≤ _; omega
  | [p], h => by
    have := h p (List.mem_cons_self ..)
    show p.length ≤ 1 * (k + S.length)
    omega
  | p :: q :: r, h => by
    have h1 := h p (List.mem_cons_self ..)
    have h2 := joinL_len (S := S) (k := k) (ps := q :: r) fun x hx => h x (List.mem_cons_of_mem _ hx)
    rw [joinL_cons, List.length_append, List.length_append]
    have e : (p :: q :: r).length * (k + S.length) = (q :: r).length * (k + S.length) + (k + S.length) := by
      rw [List.length_cons, Nat.succ_mul]
    omega
theorem tl_join' (y : Str) (ps : List Str) : TL.tl (Txt.join y ps) = TL.joinL (TL.tl y) (ps.map TL.tl) := by rw [TL.join_eq, TL.tl_join]
theorem ok_of {s : Str} (h : ∀ c ∈ TL.tl s, c < 1114112) : PyData.strOk s = true := by
  unfold PyData.strOk
  rw [Array.all_eq_true']
  intro c hc
  exact decide_eq_true (h c (Array.mem_toList_iff.mpr hc))
theorem cmp_str {s : Str} (h : ∀ c ∈ TL.tl s, c < 1114112) : (D.str s).cmp := ⟨ok_of h, by show 0 ≤ 64; decide⟩
/-! the signs of a number -/
theorem num_dig {n : Int} (h : 0 ≤ n) : ∀ c ∈ TL.tl (nS n), 48 ≤ c ∧ c ≤ 57 := fun c hc => by
  rw [tl_nS h] at hc
  exact TL.numL_digits _ c hc
theorem num_len {n : Int} (h : 0 ≤ n) (h1 : n < 1000000000) : 1 ≤ (nS n).length ∧ (nS n).length ≤ 9 := by
  rw [TL.len_tl, tl_nS h]
  have h2 := TL.numL_len (n := n.toNat) (k := 9) (by decide) (by show n.toNat < 1000000000; omega)
  have h3 := TL.numL_ne n.toNat
  have := List.length_pos_iff.mpr h3
  omega
theorem numL_head : ∀ (n : Nat), 0 < n → ∃ d l, TL.numL n = d :: l ∧ d ≠ 48 := by
  intro n
  induction n using Nat.strongRecOn with
  | _ n ih =>
    intro h
    by_cases q : n < 10
    · exact ⟨48 + n, [], TL.numL_lt q, by omega⟩
    · obtain ⟨d, l, e, hd⟩ := ih (n / 10) (by omega) (by omega)
      exact ⟨d, l ++ [48 + n % 10], by rw [TL.numL_step (by omega), e]; rfl, hd⟩
theorem nS_zero : nS 0 = ("0" : Str) := by
  refine TL.ext_tl ?_
  rw [tl_nS (by decide)]
  show TL.numL 0 = _
  rw [TL.numL_lt (by decide), TL.tl_ofString]; rfl
theorem nS_read {n : Int} (h : 0 ≤ n) (h1 : n < 1000000000) : PySem.intText? (nS n) = some n := W.KIN.num_reads h (by omega)
/-! rows -/
def rowPs (x : Cl) : List Str := [nS x.d, "owes", nS x.c, nS x.a, "at", nS x.r]
def rowS (x : Cl) : Str := Txt.join " " (rowPs x)
def cashPs (b : Bk) : List Str := "cash" :: b.cash.map nS
def cashS (b : Bk) : Str := "cash " ++ Txt.join " " (b.cash.map nS)
def textS (b : Bk) : Str := Txt.join "\n" (cashS b :: b.cl.map rowS)
theorem tl_sp : TL.tl (" " : Str) = [32] := by rw [TL.tl_ofString]; rfl
theorem tl_nl : TL.tl ("\n" : Str) = [10] := by rw [TL.tl_ofString]; rfl
theorem tl_owes : TL.tl ("owes" : Str) = [111, 119, 101, 115] := by rw [TL.tl_ofString]; rfl
theorem tl_at : TL.tl ("at" : Str) = [97, 116] := by rw [TL.tl_ofString]; rfl
theorem tl_cash : TL.tl ("cash" : Str) = [99, 97, 115, 104] := by rw [TL.tl_ofString]; rfl
theorem tl_cashs : TL.tl ("cash " : Str) = [99, 97, 115, 104, 32] := by rw [TL.tl_ofString]; rfl
theorem tl_owess : TL.tl (" owes " : Str) = [32, 111, 119, 101, 115, 32] := by rw [TL.tl_ofString]; rfl
theorem tl_ats : TL.tl (" at " : Str) = [32, 97, 116, 32] := by rw [TL.tl_ofString]; rfl
theorem row_written (x : Cl) : nS x.d ++ " owes " ++ nS x.c ++ " " ++ nS x.a ++ " at " ++ nS x.r = rowS x := by
  refine TL.ext_tl ?_
  unfold rowS rowPs
  rw [tl_join']
  simp only [TL.tl_append, List.map_cons, List.map_nil, joinL_cons, joinL_one, tl_sp, tl_owes, tl_at, tl_owess, tl_ats, List.append_assoc]
  rfl
theorem cash_join {b : Bk} (h : 1 ≤ b.n) : cashS b = Txt.join " " (cashPs b) := by
  refine TL.ext_tl ?_
  unfold cashS cashPs
  unfold Bk.n at h
  match e : b.cash, h with
  | c :: cs, _ =>
    rw [TL.tl_append, tl_join', tl_join', List.map_cons, List.map_cons, List.map_cons, List.map_cons, joinL_cons, tl_sp, tl_cash, tl_cashs]
    rfl
def SmC (x : Cl) : Prop := (0 ≤ x.d ∧ x.d < 1000000000) ∧ (0 ≤ x.c ∧ x.c < 1000000000) ∧ (0 ≤ x.a ∧ x.a < 1000000000) ∧ (0 ≤ x.r ∧ x.r < 1000000000)
theorem row_free {x : Cl} (h : SmC x) : ∀ p ∈ rowPs x, ∀ c ∈ TL.tl p, 48 ≤ c ∧ c ≤ 122 := by
  obtain ⟨h1, h2, h3, h4⟩ := h
  intro p hp c hc
  simp only [rowPs, List.mem_cons, List.not_mem_nil, or_false] at hp
  rcases hp with rfl | rfl | rfl | rfl | rfl | rfl
  · have := num_dig h1.1 c hc; omega
  · rw [tl_owes] at hc; simp at hc; omega
  · have := num_dig h2.1 c hc; omega
  · have := num_dig h3.1 c hc; omega
  · rw [tl_at] at hc; simp at hc; omega
  · have := num_dig h4.1 c hc; omega
theorem cash_free {b : Bk} (h : ∀ x ∈ b.cash, 0 ≤ x ∧ x < 1000000000) : ∀ p ∈ cashPs b, ∀ c ∈ TL.tl p, 48 ≤ c ∧ c ≤ 122 := by
  intro p hp c hc
  rcases List.mem_cons.mp hp with rfl | hp
  · rw [tl_cash] at hc; simp at hc; omega
  · obtain ⟨x, hx, rfl⟩ := List.mem_map.mp hp
    have := num_dig (h x hx).1 c hc; omega
theorem row_split {x : Cl} (h : SmC x) : Txt.split (rowS x) " " = rowPs x := by
  refine TL.split_join (s := 32) (S := []) tl_sp (by decide +kernel) (by unfold rowPs; simp) fun p hp z => ?_
  have := row_free h p hp 32 z
  omega
theorem cash_split {b : Bk} (h0 : 1 ≤ b.n) (h : ∀ x ∈ b.cash, 0 ≤ x ∧ x < 1000000000) : Txt.split (cashS b) " " = cashPs b := by
  rw [cash_join h0]
  refine TL.split_join (s := 32) (S := []) tl_sp (by decide +kernel) (by unfold cashPs; simp) fun p hp z => ?_
  have := cash_free h p hp 32 z
  omega
theorem row_sgn {x : Cl} (h : SmC x) : ∀ c ∈ TL.tl (rowS x), 32 ≤ c ∧ c ≤ 122 := fun c hc => by
  unfold rowS at hc
  rw [tl_join', tl_sp] at hc
  rcases joinL_mem hc with hc | ⟨p, hp, hc⟩
  · simp at hc; omega
  · obtain ⟨q, hq, rfl⟩ := List.mem_map.mp hp
    have := row_free h q hq c hc; omega
theorem cash_sgn {b : Bk} (h0 : 1 ≤ b.n) (h : ∀ x ∈ b.cash, 0 ≤ x ∧ x < 1000000000) : ∀ c ∈ TL.tl (cashS b), 32 ≤ c ∧ c ≤ 122 := fun c hc => by
  rw [cash_join h0, tl_join', tl_sp] at hc
  rcases joinL_mem hc with hc | ⟨p, hp, hc⟩
  · simp at hc; omega
  · obtain ⟨q, hq, rfl⟩ := List.mem_map.mp hp
    have := cash_free h q hq c hc; omega
structure SmB (b : Bk) : Prop where
  n1 : 1 ≤ b.n
  n8 : b.n ≤ 8
  m24 : b.m ≤ 24
  cash : ∀ x ∈ b.cash, 0 ≤ x ∧ x < 1000000000
  cl : ∀ x ∈ b.cl, SmC x
theorem smB {b : Bk} (hb : BkOk b) : SmB b := ⟨hb.n1, hb.n8, hb.m24, fun x hx => by have := hb.cash x hx; omega, fun x hx => by
  obtain ⟨a0, a1, a2, a3, _, a5, a6, a7, a8⟩ := hb.cl x hx
  have := hb.n8
  exact ⟨⟨a0, by omega⟩, ⟨a2, by omega⟩, ⟨by omega, by omega⟩, ⟨by omega, by omega⟩⟩⟩
theorem text_parts {b : Bk} (h : SmB b) : ∀ p ∈ cashS b :: b.cl.map rowS, ∀ c ∈ TL.tl p, 32 ≤ c ∧ c ≤ 122 := fun p hp c hc => by
  rcases List.mem_cons.mp hp with rfl | hp
  · exact cash_sgn h.n1 h.cash c hc
  · obtain ⟨x, hx, rfl⟩ := List.mem_map.mp hp
    exact row_sgn (h.cl x hx) c hc
theorem text_split {b : Bk} (h : SmB b) : Txt.split (textS b) "\n" = cashS b :: b.cl.map rowS := by
  refine TL.split_join (s := 10) (S := []) tl_nl (by decide +kernel) (by simp) fun p hp z => ?_
  have := text_parts h p hp 10 z
  omega
theorem text_sgn {b : Bk} (h : SmB b) : ∀ c ∈ TL.tl (textS b), c < 1114112 := fun c hc => by
  unfold textS at hc
  rw [tl_join', tl_nl] at hc
  rcases joinL_mem hc with hc | ⟨p, hp, hc⟩
  · simp at hc; omega
  · obtain ⟨q, hq, rfl⟩ := List.mem_map.mp hp
    have := text_parts h q hq c hc; omega
theorem row_len {x : Cl} (h : SmC x) : (rowS x).length ≤ 60 := by
  obtain ⟨h1, h2, h3, h4⟩ := h
  rw [TL.len_tl]
  unfold rowS rowPs
  rw [tl_join', tl_sp]
  have := joinL_len (S := [32]) (k := 9) (ps := [nS x.d, "owes", nS x.c, nS x.a, "at", nS x.r].map TL.tl) fun p hp => by
    simp only [List.map_cons, List.map_nil, List.mem_cons, List.not_mem_nil, or_false] at hp
    rcases hp with rfl | rfl | rfl | rfl | rfl | rfl
    · rw [← TL.len_tl]; exact (num_len h1.1 h1.2).2
    · rw [tl_owes]; decide
    · rw [← TL.len_tl]; exact (num_len h2.1 h2.2).2
    · rw [← TL.len_tl]; exact (num_len h3.1 h3.2).2
    · rw [tl_at]; decide
    · rw [← TL.len_tl]; exact (num_len h4.1 h4.2).2
  exact this
theorem cash_len {b : Bk} (h : SmB b) : (cashS b).length ≤ 100 := by
  rw [TL.len_tl]
  unfold cashS
  rw [TL.tl_append, tl_join', tl_sp, tl_cashs, List.length_append]
  have := joinL_len (S := [32]) (k := 9) (ps := (b.cash.map nS).map TL.tl) fun p hp => by
    obtain ⟨q, hq, rfl⟩ := List.mem_map.mp hp
    obtain ⟨x, hx, rfl⟩ := List.mem_map.mp hq
    have := h.cash x hx
    rw [← TL.len_tl]; exact (num_len this.1 this.2).2
  rw [List.length_map, List.length_map] at this
  have h8 := h.n8
  unfold Bk.n at h8
  simp only [List.length_cons, List.length_nil] at this ⊢
  omega
theorem sum_le {k : Nat} : ∀ {l : List Nat}, (∀ x ∈ l, x ≤ k) → l.sum ≤ l.length * k
  | [], _ => by simp
  | x :: l, h => by
    have h1 := h x (List.mem_cons_self ..)
    have h2 := sum_le (l := l) fun y hy => h y (List.mem_cons_of_mem _ hy)
    rw [List.sum_cons, List.length_cons, Nat.succ_mul]; omega
theorem text_sum {b : Bk} (h : SmB b) : ((cashS b :: b.cl.map rowS).map fun y => y.length).sum ≤ 3000 := by
  have := sum_le (k := 100) (l := (cashS b :: b.cl.map rowS).map fun y => y.length) fun x hx => by
    obtain ⟨p, hp, rfl⟩ := List.mem_map.mp hx
    rcases List.mem_cons.mp hp with rfl | hp
    · exact cash_len h
    · obtain ⟨y, hy, rfl⟩ := List.mem_map.mp hp
      have := row_len (h.cl y hy); omega
  rw [List.length_map, List.length_cons, List.length_map] at this
  have hm := h.m24
  unfold Bk.m at hm
  omega
theorem text_len {b : Bk} (h : SmB b) : (textS b).length ≤ 10000 := by
  rw [TL.len_tl]
  unfold textS
  rw [tl_join', tl_nl]
  have := joinL_len (S := [10]) (k := 100) (ps := (cashS b :: b.cl.map rowS).map TL.tl) fun p hp => by
    obtain ⟨q, hq, rfl⟩ := List.mem_map.mp hp
    rw [← TL.len_tl]
    rcases List.mem_cons.mp hq with rfl | hq
    · exact cash_len h
    · obtain ⟨y, hy, rfl⟩ := List.mem_map.mp hq
      have := row_len (h.cl y hy); omega
  rw [List.length_map, List.length_cons, List.length_map] at this
  have hm := h.m24
  unfold Bk.m at hm
  simp only [List.length_cons, List.length_nil] at this
  omega
end VS

namespace VS
open PySem PySem.Spec PyProof.Rows L2
open Mx (Cl Bk BkOk BkW ClOk on owe grp payG payP ranks9 pick at' sh coin)
/-! ### texts of books -/
theorem iteFx {k : Bool} {x y : Prop} (h : k = false) (hy : y) : if k = true then x else y := by rw [h]; exact hy
theorem iteTx {k : Bool} {x y : Prop} (h : k = true) (hy : x) : if k = true then x else y := by rw [h]; exact hy
theorem asg_fx {fr : Bool} {d : D} {Γ : List Sl} {i : Nat} {K : List Sl → Prop} (hf : fr = true) (h : K (Γ.set i (.val true d))) : Tg.asg fr d Γ K (.nm i) := by
  subst hf; exact h
theorem eqv_str (s t : Str) : (D.str s).eqv (.str t) = (s == t) := rfl
theorem flats_str : ∀ l : List Str, D.flats (l.map D.str) = true
  | [] => rfl
  | s :: l => by
    show (true && D.flats (l.map D.str)) = true
    rw [flats_str l]; rfl
theorem nmL_strs (m : Md) (l : List Str) : nmL m (l.map D.str) = .F := by unfold nmL; rw [if_pos (flats_str l)]
theorem nmL_nS (m : Md) (l : List Int) : nmL m (l.map fun n => .str (nS n)) = .F := by
  have : (l.map fun n => D.str (nS n)) = (l.map nS).map D.str := by rw [List.map_map]; rfl
  rw [this, nmL_strs]
/-- a comprehension over numbers' texts -/
theorem lc_ints2 {ω : Type} {C : Cn ω} {tg : Tg} {fr : Bool} {te : EM C} {Γ : List Sl} {K : Md → List D → ω → Prop} (ns : List Int) {w : ω} (hl : ns.length < 1000000)
    (hs : ∀ n ∈ ns, ∀ N : Md → D → ω → Prop, N .F (.int n) w → tg.asg fr (.str (nS n)) Γ fun Γ' => te Γ' w N) (hd : K .F (ns.map D.int) w) : lcLoop tg fr (yesM : BM C) te Γ K ((ns.map nS).map D.str) w .F [] := by
  refine lc_by (fun k w' m acc => w' = w ∧ m = .F ∧ k ≤ ns.length ∧ acc = (ns.take k).map D.int) (fun k d w' m acc N h1 h2 h3 => ?_) (fun w' m acc h => ?_) ⟨rfl, rfl, Nat.zero_le _, rfl⟩
  · obtain ⟨rfl, rfl, hk, rfl⟩ := h2
    rw [List.map_map, List.getElem?_map] at h1
    cases hv : ns[k]? with
    | none => rw [hv] at h1; cases h1
    | some v =>
      rw [hv] at h1; cases h1
      have hkl : k < ns.length := (List.getElem?_eq_some_iff.mp hv).1
      refine hs v (List.mem_of_getElem? hv) _ ⟨rfl, by simp; omega, ?_⟩
      refine h3 _ _ _ ⟨rfl, rfl, hkl, ?_⟩
      rw [List.take_add_one, hv, List.map_append]; rfl
  · obtain ⟨rfl, rfl, hk, rfl⟩ := h
    rw [List.length_map, List.length_map, List.take_length]; exact hd
/-- whether a text writes a number -/
def numB (s : Str) : Bool := decide (1 ≤ s.length ∧ s.length ≤ 9) && (!(decide ((TL.tl s).head? = some 48) && decide (s ≠ "0")) && (TL.tl s).all fun c => decide (c ∈ TL.tl ("0123456789" : Str)))
def p_is_number : PD := fun ds K => ∃ s : Str, ds = [.str s] ∧ s.length ≤ 1000000 ∧ (∀ c ∈ TL.tl s, c < 1114112) ∧ K (.bl (numB s))
def p_numbers_of : PD := fun ds K => ∃ (ns : List Int) (row : Int), ds = [.lst ((ns.map nS).map D.str), .int row] ∧ ns.length ≤ 1000 ∧ (∀ n ∈ ns, 0 ≤ n ∧ n < 1000000000) ∧ K (.tup (ns.map D.int))
def p_cash_of : PD := fun ds K => ∃ b : Bk, ds = [.str (cashS b)] ∧ SmB b ∧ K (cashD b)
def p_claim_of : PD := fun ds K => ∃ (x : Cl) (at_ : Int), ds = [.str (rowS x), .int at_] ∧ SmC x ∧ K (clD x)
def p_written : PD := fun ds K => ∃ b : Bk, ds = [bkD b] ∧ BkOk b ∧ K (.str (textS b))
def p_read : PD := fun ds K => ∃ b : Bk, ds = [.str (textS b)] ∧ BkOk b ∧ K (bkD b)
theorem figs : TL.tl ("0123456789" : Str) = [48, 49, 50, 51, 52, 53, 54, 55, 56, 57] := by rw [TL.tl_ofString]; rfl
theorem mem_figs {c : Nat} (h : 48 ≤ c ∧ c ≤ 57) : c ∈ TL.tl ("0123456789" : Str) := by
  rw [figs]; simp; omega
/-- a number's text doesn't begin with nought, if it is none -/
theorem num_first {n : Int} (h0 : 0 ≤ n) (h : nS n ≠ "0") : ∃ c l, TL.tl (nS n) = c :: l ∧ c ≠ 48 := by
  have : 0 < n.toNat := by
    rcases Nat.lt_or_ge 0 n.toNat with z | z
    · exact z
    · exact absurd (by rw [show n = 0 by omega]; exact nS_zero) h
  obtain ⟨d, l, e, hd⟩ := numL_head _ this
  exact ⟨d, l, by rw [tl_nS h0]; exact e, hd⟩
theorem cmp_nS {n : Int} (h : 0 ≤ n) : (D.str (nS n)).cmp := cmp_str fun c hc => by have := num_dig h c hc; omega
theorem cmp_k {s : Str} (h : (TL.tl s).all (fun c => decide (c < 1114112)) = true) : (D.str s).cmp := cmp_str fun c hc => of_decide_eq_true (List.all_eq_true.mp h c hc)
theorem numB_len {s : Str} (h : ¬ (1 ≤ s.length ∧ s.length ≤ 9)) : numB s = false := by unfold numB; rw [decide_eq_false h]; rfl
theorem numB_head {s : Str} (h : (TL.tl s).head? = some 48) (h2 : s ≠ "0") : numB s = false := by unfold numB; rw [decide_eq_true h, decide_eq_true h2]; simp
theorem numB_rest {s : Str} (h : 1 ≤ s.length ∧ s.length ≤ 9) (h2 : ¬ ((TL.tl s).head? = some 48 ∧ s ≠ "0")) : numB s = (TL.tl s).all fun c => decide (c ∈ TL.tl ("0123456789" : Str)) := by
  unfold numB
  have e : (decide ((TL.tl s).head? = some 48) && decide (s ≠ "0")) = false := by
    rw [Bool.and_eq_false_iff]
    by_cases q : (TL.tl s).head? = some 48
    · exact .inr (decide_eq_false fun z => h2 ⟨q, z⟩)
    · exact .inl (decide_eq_false q)
  rw [decide_eq_true h, e]; rfl
theorem numB_nS {n : Int} (h0 : 0 ≤ n) (h1 : n < 1000000000) : numB (nS n) = true := by
  have hl := num_len h0 h1
  rw [numB_rest hl fun ⟨z1, z2⟩ => ?_]
  · exact List.all_eq_true.mpr fun c hc => decide_eq_true (mem_figs (num_dig h0 c hc))
  · obtain ⟨c, l, e, hc⟩ := num_first h0 z2
    rw [e] at z1
    exact hc (Option.some.inj z1)
theorem eq_sign (c : Nat) : (D.str ⟨#[c]⟩).eqv (.str "0") = decide (c = 48) := by
  show ((⟨#[c]⟩ : Str) == "0") = _
  by_cases h : c = 48
  · subst h; decide +kernel
  · rw [decide_eq_false h]
    refine beq_eq_false_iff_ne.mpr fun z => h ?_
    have : TL.tl (⟨#[c]⟩ : Str) = TL.tl ("0" : Str) := by rw [z]
    rw [TL.tl_ofString] at this
    simpa [TL.tl] using this
/-! is_number["word", "sign"] -/
def m_is_number {ω : Type} (C : Cn ω) : SM C :=
  (seqM (ifM (orM (notM (testM (chainM leF leF (constM (.int 1)) (callM lenF (consA (nameM 0) nilA)) (constM (.int 9))))) (andM (testM (binM eqF (binM ixF (nameM 0) (constM (.int 0))) (constM (.str "0")))) (testM (binM neF (nameM 0) (constM (.str "0")))))) (retM (constM (.bl false))) nextM)
  (seqM (forM (.nm 1) (iterS (nameM 0)) (ifM (testM (binM (inSF true) (nameM 1) (constM (.str "0123456789")))) (retM (constM (.bl false))) nextM))
  (retM (constM (.bl true)))))
abbrev c_is_number {ω : Type} {C : Cn ω} (ts : AM C) : EM C := callD 1 [] p_is_number ts

set_option maxHeartbeats 4000000 in
theorem r_is_number {ω : Type} {C : Cn ω} (ds : List D) (Kp : D → Prop) (hl : ds.length = 1) (hp : p_is_number ds Kp) (w : ω) : m_is_number C ⟨fun _ _ => Kp .non, fun d _ => Kp d, fun _ _ => False, fun _ _ => False⟩ (startG 2 [] ds) w := by
  obtain ⟨s, rfl, hsz, hok, hk⟩ := hp
  have st : startG 2 [] [D.str s] = [.val true (.str s), .no] := rfl
  rw [st]
  have bad : numB s = false → Kp (.bl false) := fun e => by rw [e] at hk; exact hk
  have rest : (1 ≤ s.length ∧ s.length ≤ 9) → ¬ ((TL.tl s).head? = some 48 ∧ s ≠ "0") → (seqM (forM (.nm 1) (iterS (nameM 0)) (ifM (testM (binM (inSF true) (nameM 1) (constM (.str "0123456789")))) (retM (constM (.bl false))) nextM)) (retM (constM (.bl true))) : SM C) ⟨fun _ _ => Kp .non, fun d _ => Kp d, fun _ _ => False, fun _ _ => False⟩ [.val true (.str s), .no] w := fun hl hh => by
    have e := numB_rest hl hh
    refine ⟨_, rfl, rfl, ?_⟩
    refine loop_by (fun k Γ w => (∀ c ∈ (TL.tl s).take k, c ∈ TL.tl ("0123456789" : Str)) ∧ ∃ s1, Γ = [.val true (.str s), s1]) (fun k d Γ w N hd hI hN => ?_) (fun Γ w hI => ?_) ⟨fun c hc => by simp at hc, _, rfl⟩
    · obtain ⟨ho, s1, rfl⟩ := hI
      have hd : (s.cps.toList.map fun c => D.str ⟨#[c]⟩)[k]? = some d := hd
      rw [List.getElem?_map] at hd
      cases hc : s.cps.toList[k]? with
      | none => rw [hc] at hd; cases hd
      | some c =>
      rw [hc] at hd; cases hd
      have hc' : (TL.tl s)[k]? = some c := hc
      by_cases q : c ∈ TL.tl ("0123456789" : Str)
      · refine asg_flat rfl ⟨c, _, rfl, rfl, _, rfl, iteFx (by rw [show decide (c ∈ (("0123456789" : Str)).cps.toList) = true from decide_eq_true q]; rfl) (hN _ _ ⟨fun x hx => ?_, _, rfl⟩)⟩
        rw [List.take_add_one, hc'] at hx
        rcases List.mem_append.mp hx with hx | hx
        · exact ho x hx
        · have : x = c := by simpa using hx
          rw [this]; exact q
      · refine asg_flat rfl ⟨c, _, rfl, rfl, _, rfl, iteTx (by rw [show decide (c ∈ (("0123456789" : Str)).cps.toList) = false from decide_eq_false q]; rfl) ⟨rfl, rfl, bad ?_⟩⟩
        rw [e]
        exact Bool.eq_false_iff.mpr fun z => q (of_decide_eq_true (List.all_eq_true.mp z c (List.mem_of_getElem? hc')))
    · obtain ⟨ho, s1, rfl⟩ := hI
      rw [show (sgD s).length = s.cps.toList.length from List.length_map _] at ho
      have : (TL.tl s).take s.cps.toList.length = TL.tl s := List.take_length
      rw [this] at ho
      refine ⟨rfl, rfl, ?_⟩
      have e2 : numB s = true := by rw [e]; exact List.all_eq_true.mpr fun c hc => decide_eq_true (ho c hc)
      rw [e2] at hk; exact hk
  refine ⟨hsz, _, rfl, ?_⟩
  by_cases l0 : 1 ≤ s.length
  case neg => exact iteN (by omega) ⟨_, rfl, iteTx rfl (iteTx rfl ⟨rfl, rfl, bad (numB_len fun z => l0 z.1)⟩)⟩
  refine iteP (show (1 : Int) ≤ _ by omega) ⟨_, rfl, ?_⟩
  by_cases l1 : s.length ≤ 9
  case neg =>
    rw [decide_eq_false (show ¬ (s.length : Int) ≤ 9 by omega)]
    exact iteTx rfl (iteTx rfl ⟨rfl, rfl, bad (numB_len fun z => l1 z.2)⟩)
  rw [decide_eq_true (show (s.length : Int) ≤ 9 by omega)]
  refine iteFx rfl ?_
  have htl : (TL.tl s).length = s.length := (TL.len_tl s).symm
  obtain ⟨c, l, e⟩ : ∃ c l, TL.tl s = c :: l := List.exists_cons_of_ne_nil fun z => by rw [z] at htl; simp at htl; omega
  have ha : atI (s.cps.toList) 0 = some c := by
    show atI (TL.tl s) 0 = _
    rw [e]
    unfold atI
    rw [ixN_ok (by decide) (by simp)]; rfl
  have hc1 := hok c (by rw [e]; exact List.mem_cons_self ..)
  have hh : (TL.tl s).head? = some c := by rw [e]; rfl
  refine ⟨hsz, c, ha, cmp_str (fun x hx => ?_), cmp_k (by decide +kernel), _, rfl, ?_⟩
  · have : x = c := by simpa [TL.tl] using hx
    omega
  rw [eq_sign]
  by_cases q : c = 48
  · refine iteTx (decide_eq_true q) ⟨cmp_str hok, cmp_k (by decide +kernel), _, rfl, ?_⟩
    by_cases q2 : s = "0"
    · exact iteFx (by rw [q2]; decide +kernel) (rest ⟨l0, l1⟩ fun z => z.2 q2)
    · refine iteTx ?_ ⟨rfl, rfl, bad (numB_head (by rw [hh, q]) q2)⟩
      show (!(s == ("0" : Str))) = true
      rw [beq_eq_false_iff_ne.mpr q2]; rfl
  · exact iteFx (decide_eq_false q) (iteF (rest ⟨l0, l1⟩ fun z => q (Option.some.inj (hh.symm.trans z.1))))
--END is_number
/-! numbers_of -/
def m_numbers_of {ω : Type} (C : Cn ω) : SM C :=
  (seqM (forM (.nm 2) (iterL (nameM 0)) (ifM (notM (testM (c_is_number (consA (nameM 2) nilA)))) nvM nextM))
  (retM (callM tupleF (consA (lcM (.nm 2) (iterL (nameM 0)) yesM (callM intSF (consA (nameM 2) nilA)) [2]) nilA))))
abbrev c_numbers_of {ω : Type} {C : Cn ω} (ts : AM C) : EM C := callD 2 [] p_numbers_of ts

theorem r_numbers_of {ω : Type} {C : Cn ω} (ds : List D) (Kp : D → Prop) (hl : ds.length = 2) (hp : p_numbers_of ds Kp) (w : ω) : m_numbers_of C ⟨fun _ _ => Kp .non, fun d _ => Kp d, fun _ _ => False, fun _ _ => False⟩ (startG 3 [] ds) w := by
  obtain ⟨ns, row, rfl, hln, hb, hk⟩ := hp
  have st : startG 3 [] [D.lst ((ns.map nS).map D.str), .int row] = [.val false (.lst ((ns.map nS).map D.str)), .val true (.int row), .no] := rfl
  rw [st]
  refine ⟨_, rfl, rfl, ?_⟩
  refine loop_by (fun k Γ w => ∃ s2, (∀ d, s2 ≠ .own d) ∧ Γ = [.val false (.lst ((ns.map nS).map D.str)), .val true (.int row), s2]) (fun k d Γ w N hd hI hN => ?_) (fun Γ w hI => ?_) ⟨_, (fun d z => by cases z), rfl⟩
  · obtain ⟨s2, _, rfl⟩ := hI
    obtain ⟨p, hp, rfl⟩ := List.mem_map.mp (List.mem_of_getElem? hd)
    obtain ⟨n, hn, rfl⟩ := List.mem_map.mp hp
    exact asg_flat rfl ⟨rfl, rfl, nS n, rfl, (by have := (num_len (hb n hn).1 (hb n hn).2).2; omega), (fun c hc => by have := num_dig (hb n hn).1 c hc; omega), _, rfl, iteFx (by rw [numB_nS (hb n hn).1 (hb n hn).2]; rfl) (hN _ _ ⟨.val true (.str (nS n)), (fun d z => by cases z), rfl⟩)⟩
  obtain ⟨s2, h2, rfl⟩ := hI
  refine ⟨_, rfl, ?_, ?_⟩
  · cases s2 <;> first | rfl | exact absurd rfl (h2 _)
  refine lc_ints2 ns (by omega) (fun n hn N hN => ?_) ?_
  · refine asg_flat rfl ⟨_, _, n, rfl, nS_read (hb n hn).1 (hb n hn).2, by have := (num_len (hb n hn).1 (hb n hn).2).2; omega, hN⟩
  · refine ⟨by rw [nmL_ints]; rfl, ?_, hk⟩
    rw [nmL_ints]; rfl
--END numbers_of
theorem cmp_cash : (D.str "cash").cmp := cmp_k (by rw [tl_cash]; decide)
theorem cmp_owes : (D.str "owes").cmp := cmp_k (by rw [tl_owes]; decide)
theorem cmp_at : (D.str "at").cmp := cmp_k (by rw [tl_at]; decide)
theorem eqv_sstr (s : Str) : (D.str s).eqv (.str s) = true := by rw [eqv_str]; simp
theorem ix_str {l : List Str} {i : Int} {s : Str} (h0 : 0 ≤ i) (h : l[i.toNat]? = some s) : atI (l.map D.str) i = some (.str s) := by
  have hl := (List.getElem?_eq_some_iff.mp h).1
  unfold atI
  rw [List.length_map, ixN_ok h0 (by omega)]
  show (l.map D.str)[i.toNat]? = _
  rw [List.getElem?_map, h]; rfl
/-! cash_of -/
def m_cash_of {ω : Type} (C : Cn ω) : SM C :=
  (seqM (asgM (.nm 1) (splitM (nameM 0) (constM (.str " "))))
  (seqM (ifM (orM (testM (binM neF (binM ixF (nameM 1) (constM (.int 0))) (constM (.str "cash")))) (testM (binM ltF (callM lenF (consA (nameM 1) nilA)) (constM (.int 2))))) nvM nextM)
  (retM (c_numbers_of (consA (slM (nameM 1) (partM (constM (.int 1))) noPart) (consA (constM (.int 0)) nilA))))))
abbrev c_cash_of {ω : Type} {C : Cn ω} (ts : AM C) : EM C := callD 1 [] p_cash_of ts

theorem r_cash_of {ω : Type} {C : Cn ω} (ds : List D) (Kp : D → Prop) (hl : ds.length = 1) (hp : p_cash_of ds Kp) (w : ω) : m_cash_of C ⟨fun _ _ => Kp .non, fun d _ => Kp d, fun _ _ => False, fun _ _ => False⟩ (startG 2 [] ds) w := by
  obtain ⟨b, rfl, hb, hk⟩ := hp
  have st : startG 2 [] [D.str (cashS b)] = [.val true (.str (cashS b)), .no] := rfl
  rw [st]
  have hn1 := hb.n1
  have hn8 := hb.n8
  have hcl := cash_len hb
  refine ⟨_, rfl, _, rfl, by decide +kernel, by omega, ?_⟩
  rw [cash_split hb.n1 hb.cash]
  refine ⟨rfl, asg_fx rfl ?_⟩
  have lc : ((cashPs b).map D.str).length = b.n + 1 := by unfold cashPs Bk.n; simp
  refine ⟨_, ix_str (s := "cash") (by decide) rfl, cmp_cash, cmp_cash, _, rfl, iteFx (by rw [eqv_sstr]; rfl) ⟨_, rfl, iteN (by rw [lc]; omega) ?_⟩⟩
  refine ⟨_, rfl, ?_⟩
  unfold noPart
  dsimp only [slD]
  rw [cut_hi (by decide) (by rw [lc]; omega)]
  have ed : ((cashPs b).map D.str).drop (1 : Int).toNat = (b.cash.map nS).map D.str := rfl
  rw [ed]
  exact ⟨rfl, rfl, b.cash, 0, rfl, by unfold Bk.n at hn8; omega, hb.cash, rfl, by show (true || _) = true; rfl, hk⟩
--END cash_of
/-! claim_of -/
def m_claim_of {ω : Type} (C : Cn ω) : SM C :=
  (seqM (asgM (.nm 2) (splitM (nameM 0) (constM (.str " "))))
  (seqM (ifM (orM (testM (binM neF (callM lenF (consA (nameM 2) nilA)) (constM (.int 6)))) (orM (testM (binM neF (binM ixF (nameM 2) (constM (.int 1))) (constM (.str "owes")))) (testM (binM neF (binM ixF (nameM 2) (constM (.int 4))) (constM (.str "at")))))) nvM nextM)
  (retM (c_numbers_of (consA (lstM (consA (binM ixF (nameM 2) (constM (.int 0))) (consA (binM ixF (nameM 2) (constM (.int 2))) (consA (binM ixF (nameM 2) (constM (.int 3))) (consA (binM ixF (nameM 2) (constM (.int 5))) nilA))))) (consA (nameM 1) nilA))))))
abbrev c_claim_of {ω : Type} {C : Cn ω} (ts : AM C) : EM C := callD 2 [] p_claim_of ts

theorem r_claim_of {ω : Type} {C : Cn ω} (ds : List D) (Kp : D → Prop) (hl : ds.length = 2) (hp : p_claim_of ds Kp) (w : ω) : m_claim_of C ⟨fun _ _ => Kp .non, fun d _ => Kp d, fun _ _ => False, fun _ _ => False⟩ (startG 3 [] ds) w := by
  obtain ⟨x, at_, rfl, hx, hk⟩ := hp
  have st : startG 3 [] [D.str (rowS x), .int at_] = [.val true (.str (rowS x)), .val true (.int at_), .no] := rfl
  rw [st]
  have hrl := row_len hx
  refine ⟨_, rfl, _, rfl, by decide +kernel, by omega, ?_⟩
  rw [row_split hx]
  refine ⟨rfl, asg_fx rfl ?_⟩
  refine ⟨cmp_int _, cmp_int _, _, rfl, iteFx (by rw [eqv_int]; rfl) ?_⟩
  refine ⟨_, ix_str (s := "owes") (by decide) rfl, cmp_owes, cmp_owes, _, rfl, iteFx (by rw [eqv_sstr]; rfl) ?_⟩
  refine ⟨_, ix_str (s := "at") (by decide) rfl, cmp_at, cmp_at, _, rfl, iteFx (by rw [eqv_sstr]; rfl) ?_⟩
  refine ⟨_, ix_str (s := nS x.d) (by decide) rfl, _, ix_str (s := nS x.c) (by decide) rfl, _, ix_str (s := nS x.a) (by decide) rfl, _, ix_str (s := nS x.r) (by decide) rfl, (by show 4 ≤ 1000; decide), rfl, ?_⟩
  obtain ⟨h1, h2, h3, h4⟩ := hx
  refine ⟨rfl, rfl, [x.d, x.c, x.a, x.r], at_, rfl, (by show 4 ≤ 1000; decide), fun n hn => ?_, rfl, rfl, hk⟩
  simp only [List.mem_cons, List.not_mem_nil, or_false] at hn
  rcases hn with rfl | rfl | rfl | rfl <;> assumption
--END claim_of
def clAtR (b : Bk) : D → D | .int k => clD (b.at (k - 1)) | d => d
/-! read -/
def m_read {ω : Type} (C : Cn ω) : SM C :=
  (seqM (asgM (.nm 1) (splitM (nameM 0) (constM (.str "\n"))))
  (seqM (asgM (.nm 2) (c_cash_of (consA (binM ixF (nameM 1) (constM (.int 0))) nilA)))
  (seqM (asgM (.nm 3) (callM tupleF (consA (lcM (.nm 4) (iterR2 (consA (constM (.int 1)) (consA (callM lenF (consA (nameM 1) nilA)) nilA))) yesM (c_claim_of (consA (binM ixF (nameM 1) (nameM 4)) (consA (nameM 4) nilA))) [4]) nilA)))
  (seqM (dropM (c_need_book (consA (tupM (consA (nameM 2) (consA (nameM 3) nilA))) nilA)))
  (retM (tupM (consA (nameM 2) (consA (nameM 3) nilA))))))))
abbrev c_read {ω : Type} {C : Cn ω} (ts : AM C) : EM C := callD 1 [] p_read ts

theorem r_read {ω : Type} {C : Cn ω} (ds : List D) (Kp : D → Prop) (hl : ds.length = 1) (hp : p_read ds Kp) (w : ω) : m_read C ⟨fun _ _ => Kp .non, fun d _ => Kp d, fun _ _ => False, fun _ _ => False⟩ (startG 5 [] ds) w := by
  obtain ⟨b, rfl, hbk, hk⟩ := hp
  have hb := smB hbk
  have st : startG 5 [] [D.str (textS b)] = [.val true (.str (textS b)), .no, .no, .no, .no] := rfl
  rw [st]
  have htl := text_len hb
  have m24 := hb.m24
  refine ⟨_, rfl, _, rfl, by decide +kernel, by omega, ?_⟩
  rw [text_split hb]
  refine ⟨rfl, asg_fx rfl ?_⟩
  refine ⟨_, ix_str (s := cashS b) (by decide) rfl, rfl, rfl, b, rfl, hb, rfl, asg_fx rfl ?_⟩
  have lr : ((cashS b :: b.cl.map rowS).map D.str).length = b.m + 1 := by unfold Bk.m; simp
  refine ⟨_, _, _, _, rfl, by decide, by decide, by rw [lr]; omega, by rw [lr]; omega, rfl, ?_⟩
  refine lc_map (clAtR b) (fun d hd => ?_) (by unfold rngD; rw [List.length_map, List.length_range, lr]; omega) (fun d hd N hN => ?_) ?_
  · obtain ⟨k, hk', rfl⟩ := List.mem_map.mp hd; rfl
  · obtain ⟨k, hk', rfl⟩ := List.mem_map.mp hd
    rw [List.mem_range, lr] at hk'
    have hkm : k < b.m := by omega
    have hx : b.cl[k]? = some (b.at (k : Int)) := by
      unfold Bk.at
      unfold Bk.m at hkm
      rw [Int.toNat_natCast, List.getD_eq_getElem?_getD, List.getElem?_eq_getElem hkm]; rfl
    have hi : (cashS b :: b.cl.map rowS)[(1 + (k : Int)).toNat]? = some (rowS (b.at (k : Int))) := by
      rw [show (1 + (k : Int)).toNat = k + 1 by omega]
      show (b.cl.map rowS)[k]? = _
      rw [List.getElem?_map, hx]; rfl
    refine asg_flat rfl ⟨_, ix_str (by omega) hi, rfl, rfl, b.at (k : Int), _, rfl, hb.cl _ (List.mem_of_getElem? hx), ?_⟩
    have := hN .F rfl
    have e : clAtR b (.int (1 + (k : Int))) = clD (b.at (k : Int)) := by
      show clD (b.at ((1 + (k : Int)) - 1)) = _
      rw [show (1 + (k : Int)) - 1 = (k : Int) by omega]
    rw [e] at this
    exact this
  have ecl : (rngD 1 (((cashS b :: b.cl.map rowS).map D.str).length : Nat)).map (clAtR b) = b.cl.map clD := by
    refine List.ext_getElem? fun k => ?_
    rw [lr]
    unfold rngD
    rw [List.map_map, List.getElem?_map, List.getElem?_map]
    by_cases q : k < b.m
    · have hx : b.cl[k]? = some (b.at (k : Int)) := by
        unfold Bk.at
        unfold Bk.m at q
        rw [Int.toNat_natCast, List.getD_eq_getElem?_getD, List.getElem?_eq_getElem q]; rfl
      rw [hx, List.getElem?_range (by omega)]
      show some (clD (b.at ((1 + (k : Int)) - 1))) = some (clD (b.at (k : Int)))
      rw [show (1 + (k : Int)) - 1 = (k : Int) by omega]
    · rw [List.getElem?_eq_none (by rw [List.length_range]; omega), List.getElem?_eq_none (by unfold Bk.m at q; omega)]; rfl
  rw [ecl]
  have nmc : ∀ m : Md, nmL m (b.cl.map clD) = .F := fun m => by unfold nmL; rw [if_pos (flats_cl b.cl)]
  refine ⟨by rw [nmc]; rfl, asg_flat (flat_cls b) ?_⟩
  refine ⟨(by show 2 ≤ 1000; decide), ?_⟩
  show (jn [(_, cashD b), (_, clsD b)]).ok = true ∧ _
  rw [jn_bk]
  refine ⟨rfl, rfl, rfl, b, rfl, hbk, (by show 2 ≤ 1000; decide), ?_⟩
  show (jn [(_, cashD b), (_, clsD b)]).ok = true ∧ (jn [(_, cashD b), (_, clsD b)]).ok = true ∧ ((jn [(_, cashD b), (_, clsD b)]).fr || _) = true ∧ Kp (bkD b)
  rw [jn_bk]
  exact ⟨rfl, rfl, rfl, hk⟩
--END read
theorem len_app (s t : Str) : (s ++ t).length = s.length + t.length := by rw [TL.len_tl, TL.len_tl, TL.len_tl, TL.tl_append, List.length_append]
theorem len_k {s : Str} {k : Nat} (h : (TL.tl s).length = k) : s.length = k := by rw [TL.len_tl]; exact h
theorem abs_ok {n : Int} (h0 : 0 ≤ n) (h1 : n < 1000000000) : n.natAbs < 2 ^ 64 := by
  have : n.natAbs < 1000000000 := by omega
  exact Nat.lt_of_lt_of_le this (by decide)
def strD : D → D | .int n => .str (nS n) | d => d
theorem strD_map (l : List Int) : (l.map D.int).map strD = (l.map nS).map D.str := by rw [List.map_map, List.map_map]; rfl
theorem cash_sum {b : Bk} (hb : SmB b) : ((b.cash.map nS).map fun y => y.length).sum ≤ 100 := by
  have := sum_le (k := 9) (l := (b.cash.map nS).map fun y => y.length) fun x hx => by
    obtain ⟨p, hp, rfl⟩ := List.mem_map.mp hx
    obtain ⟨n, hn, rfl⟩ := List.mem_map.mp hp
    exact (num_len (hb.cash n hn).1 (hb.cash n hn).2).2
  rw [List.length_map, List.length_map] at this
  have h8 := hb.n8
  unfold Bk.n at h8
  omega
theorem strs_snoc (l : List Str) (s : Str) : l.map D.str ++ [.str s] = (l ++ [s]).map D.str := by rw [List.map_append]; rfl
/-! written["book", "rows", "debtor", "creditor", "amount", "rank", "coins"] -/
def m_written {ω : Type} (C : Cn ω) : SM C :=
  (seqM (dropM (c_need_book (consA (nameM 0) nilA)))
  (seqM (ownM 1 (lstM (consA (binM addF (constM (.str "cash ")) (joinM (constM (.str " ")) (lcM (.nm 6) (iterT (binM ixF (nameM 0) (constM (.int 0)))) yesM (callM strCF (consA (nameM 6) nilA)) [6]))) nilA)))
  (seqM (forM (.tp [2, 3, 4, 5]) (iterT (binM ixF (nameM 0) (constM (.int 1)))) (appM 1 (binM addF (binM addF (binM addF (binM addF (binM addF (binM addF (callM strCF (consA (nameM 2) nilA)) (constM (.str " owes "))) (callM strCF (consA (nameM 3) nilA))) (constM (.str " "))) (callM strCF (consA (nameM 4) nilA))) (constM (.str " at "))) (callM strCF (consA (nameM 5) nilA)))))
  (retM (joinM (constM (.str "\n")) (nameM 1))))))
abbrev c_written {ω : Type} {C : Cn ω} (ts : AM C) : EM C := callD 1 [] p_written ts

theorem r_written {ω : Type} {C : Cn ω} (ds : List D) (Kp : D → Prop) (hl : ds.length = 1) (hp : p_written ds Kp) (w : ω) : m_written C ⟨fun _ _ => Kp .non, fun d _ => Kp d, fun _ _ => False, fun _ _ => False⟩ (startG 7 [] ds) w := by
  obtain ⟨b, rfl, hbk, hk⟩ := hp
  rw [st_bk]
  have hb := smB hbk
  have hcl := cash_len hb
  have n8 := hb.n8
  have m24 := hb.m24
  have ln : (b.cash.map D.int).length = b.n := List.length_map _
  have lcs : (b.cash.map nS).length = b.n := by rw [List.length_map]; rfl
  have hcs := cash_sum hb
  refine ⟨rfl, rfl, b, rfl, hbk, _, rfl, _, rfl, _, rfl, rfl, ?_⟩
  refine lc_map strD (fun d hd => ?_) (by rw [ln]; omega) (fun d hd N hN => ?_) ?_
  · obtain ⟨x, hx, rfl⟩ := mem_ints hd; rfl
  · obtain ⟨x, hx, rfl⟩ := mem_ints hd
    have := hb.cash x hx
    exact asg_flat rfl ⟨abs_ok this.1 this.2, hN _ rfl⟩
  rw [strD_map]
  have l5 : ("cash " : Str).length = 5 := len_k (by rw [tl_cashs]; rfl)
  have l1 : (" " : Str).length = 1 := len_k (by rw [tl_sp]; rfl)
  have hcS : cashS b = "cash " ++ Txt.join " " (b.cash.map nS) := rfl
  have lcash : ("cash " : Str).length + (Txt.join " " (b.cash.map nS)).length ≤ 100 := by rw [← len_app]; exact hcl
  refine ⟨b.cash.map nS, rfl, by rw [lcs, l1]; omega, by omega, (by show 1 ≤ 1000; decide), rfl, rfl, rfl, ?_⟩
  refine ⟨_, rfl, _, rfl, rfl, ?_⟩
  refine loop_by (fun k Γ w => ∃ s2 s3 s4 s5, k ≤ b.m ∧ Γ = [.val true (bkD b), .own (.lst ((cashS b :: (b.cl.take k).map rowS).map D.str)), s2, s3, s4, s5, .no]) (fun k d Γ w N hd hI hN => ?_) (fun Γ w hI => ?_) ⟨_, _, _, _, Nat.zero_le _, rfl⟩
  · obtain ⟨s2, s3, s4, s5, hk0, rfl⟩ := hI
    obtain ⟨rfl, hkm⟩ := cl_get hd
    have hx : b.cl[k]? = some (b.at (k : Int)) := by
      unfold Bk.at
      unfold Bk.m at hkm
      rw [Int.toNat_natCast, List.getD_eq_getElem?_getD, List.getElem?_eq_getElem hkm]; rfl
    obtain ⟨h1, h2, h3, h4⟩ := hb.cl _ (List.mem_of_getElem? hx)
    generalize hxv : b.at (k : Int) = x at *
    have q1 := (num_len h1.1 h1.2).2
    have q2 := (num_len h2.1 h2.2).2
    have q3 := (num_len h3.1 h3.2).2
    have q4 := (num_len h4.1 h4.2).2
    have lo : (" owes " : Str).length = 6 := len_k (by rw [tl_owess]; rfl)
    have la : (" at " : Str).length = 4 := len_k (by rw [tl_ats]; rfl)
    have ll : ((cashS b :: (b.cl.take k).map rowS).map D.str).length ≤ 25 := by rw [List.length_map, List.length_cons, List.length_map, List.length_take]; omega
    refine ⟨_, rfl, rfl, _, rfl, by omega, abs_ok h1.1 h1.2, ?_, abs_ok h2.1 h2.2, ?_, ?_, abs_ok h3.1 h3.2, ?_, ?_, abs_ok h4.1 h4.2, ?_, rfl, rfl, ?_⟩
    · show (nS x.d).length + (" owes " : Str).length ≤ 1000000
      omega
    · show (nS x.d ++ " owes ").length + (nS x.c).length ≤ 1000000
      rw [len_app]; omega
    · show (nS x.d ++ " owes " ++ nS x.c).length + (" " : Str).length ≤ 1000000
      rw [len_app, len_app]; omega
    · show (nS x.d ++ " owes " ++ nS x.c ++ " ").length + (nS x.a).length ≤ 1000000
      rw [len_app, len_app, len_app]; omega
    · show (nS x.d ++ " owes " ++ nS x.c ++ " " ++ nS x.a).length + (" at " : Str).length ≤ 1000000
      rw [len_app, len_app, len_app, len_app]; omega
    · show (nS x.d ++ " owes " ++ nS x.c ++ " " ++ nS x.a ++ " at ").length + (nS x.r).length ≤ 1000000
      rw [len_app, len_app, len_app, len_app, len_app]; omega
    · refine hN _ _ ⟨.val true (.int x.d), .val true (.int x.c), .val true (.int x.a), .val true (.int x.r), hkm, ?_⟩
      have er := row_written x
      have et : (cashS b :: (b.cl.take (k + 1)).map rowS).map D.str = (cashS b :: (b.cl.take k).map rowS).map D.str ++ [.str (nS x.d ++ " owes " ++ nS x.c ++ " " ++ nS x.a ++ " at " ++ nS x.r)] := by
        rw [er, strs_snoc, List.take_add_one, hx]
        simp
      rw [et]; rfl
  obtain ⟨s2, s3, s4, s5, _, rfl⟩ := hI
  have lcl : (b.cl.map clD).length = b.m := List.length_map _
  rw [lcl, show b.cl.take b.m = b.cl from List.take_length]
  have hts := text_sum hb
  have lp : (cashS b :: b.cl.map rowS).length = b.m + 1 := by rw [List.length_cons, List.length_map]; rfl
  have l10 : ("\n" : Str).length = 1 := len_k (by rw [tl_nl]; rfl)
  exact ⟨_, rfl, cashS b :: b.cl.map rowS, rfl, by rw [lp, l10]; omega, rfl, rfl, hk⟩
--END written
end VS

namespace VS
open PySem PySem.Spec PyProof.Rows L2
open Mx (Cl Bk BkOk BkW ClOk on owe grp payG payP ranks9 pick at' sh coin ofc POk sumAt mean lft T Le it Way lim fullP zeroP allH bst wst)
/-! ### books refused -/
def xB (a : Int) (why : Str) : Xn := ⟨"BadBook", some [("why", .str why), ("at", .int a)]⟩
def HsOk (n : Nat) (c : Cl) : Prop := 0 ≤ c.d ∧ c.d < n ∧ 0 ≤ c.c ∧ c.c < n ∧ c.d ≠ c.c
def ClBad (n : Nat) (c : Cl) (why : Str) : Prop := (¬ HsOk n c ∧ why = "house") ∨ (HsOk n c ∧ ¬ (1 ≤ c.a ∧ c.a ≤ 999) ∧ why = "amount") ∨ (HsOk n c ∧ (1 ≤ c.a ∧ c.a ≤ 999) ∧ ¬ (1 ≤ c.r ∧ c.r ≤ 9) ∧ why = "rank")
def CsOk (x : Int) : Prop := 0 ≤ x ∧ x ≤ 999
/-- what need_book tells of what is no book -/
def Nb (b : Bk) (a : Int) (why : Str) : Prop := (¬ (1 ≤ b.n ∧ b.n ≤ 8) ∧ a = 0 ∧ why = "houses") ∨ ((1 ≤ b.n ∧ b.n ≤ 8) ∧
  ((∃ i : Nat, i < b.n ∧ (∀ j, j < i → CsOk (at' b.cash j)) ∧ ¬ CsOk (at' b.cash i) ∧ a = i ∧ why = "cash") ∨
   ((∀ j, j < b.n → CsOk (at' b.cash j)) ∧ ((24 < b.m ∧ a = 0 ∧ why = "claims") ∨ (b.m ≤ 24 ∧ ∃ k : Nat, k < b.m ∧ (∀ j : Nat, j < k → ClOk b.n (b.at j)) ∧ ClBad b.n (b.at k) why ∧ a = k)))))
theorem ClBad.not {n : Nat} {c : Cl} {why : Str} (h : ClBad n c why) (o : ClOk n c) : False := by
  obtain ⟨o1, o2, o3, o4, o5, o6, o7, o8, o9⟩ := o
  have hs : HsOk n c := ⟨o1, o2, o3, o4, o5⟩
  rcases h with ⟨h, _⟩ | ⟨_, h, _⟩ | ⟨_, _, h, _⟩
  · exact h hs
  · exact h ⟨o6, o7⟩
  · exact h ⟨o8, o9⟩
theorem ClBad.uniq {n : Nat} {c : Cl} {w1 w2 : Str} (h1 : ClBad n c w1) (h2 : ClBad n c w2) : w1 = w2 := by
  rcases h1 with ⟨a1, rfl⟩ | ⟨a1, a2, rfl⟩ | ⟨a1, a2, a3, rfl⟩ <;> rcases h2 with ⟨b1, rfl⟩ | ⟨b1, b2, rfl⟩ | ⟨b1, b2, b3, rfl⟩ <;> first | rfl | exact absurd ‹HsOk n c› ‹¬ HsOk n c› | exact absurd ‹1 ≤ c.a ∧ c.a ≤ 999› ‹¬ (1 ≤ c.a ∧ c.a ≤ 999)›
theorem Nb.uniq {b : Bk} {a1 a2 : Int} {w1 w2 : Str} (h1 : Nb b a1 w1) (h2 : Nb b a2 w2) : a1 = a2 ∧ w1 = w2 := by
  rcases h1 with ⟨p1, rfl, rfl⟩ | ⟨p1, h1⟩
  · rcases h2 with ⟨_, rfl, rfl⟩ | ⟨p2, _⟩
    · exact ⟨rfl, rfl⟩
    · exact absurd p2 p1
  · rcases h2 with ⟨p2, _⟩ | ⟨p2, h2⟩
    · exact absurd p1 p2
    · rcases h1 with ⟨i, i1, i2, i3, rfl, rfl⟩ | ⟨c1, h1⟩
      · rcases h2 with ⟨j, j1, j2, j3, rfl, rfl⟩ | ⟨c2, _⟩
        · have : i = j := by
            rcases Nat.lt_trichotomy i j with h | h | h
            · exact absurd (j2 i h) i3
            · exact h
            · exact absurd (i2 j h) j3
          subst this; exact ⟨rfl, rfl⟩
        · exact absurd (c2 i i1) i3
      · rcases h2 with ⟨j, j1, j2, j3, rfl, rfl⟩ | ⟨c2, h2⟩
        · exact absurd (c1 j j1) j3
        · rcases h1 with ⟨m1, rfl, rfl⟩ | ⟨m1, k, k1, k2, k3, rfl⟩
          · rcases h2 with ⟨_, rfl, rfl⟩ | ⟨m2, _⟩
            · exact ⟨rfl, rfl⟩
            · omega
          · rcases h2 with ⟨m2, _⟩ | ⟨m2, l, l1, l2, l3, rfl⟩
            · omega
            · have : k = l := by
                rcases Nat.lt_trichotomy k l with h | h | h
                · exact (k3.not (l2 k h)).elim
                · exact h
                · exact (l3.not (k2 l h)).elim
              subst this; exact ⟨rfl, k3.uniq l3⟩
def p_x_need : PX := fun ds K Kx => ∃ (g : Bool) (a : Int) (why : Str), ds = [.bl g, .int a, .str why] ∧ (g = true → K .non) ∧ (g = false → Kx (xB a why))
theorem need_x {p : Prop} [Decidable p] {a : Int} {why : Str} {K : D → Prop} {Kx : Xn → Prop} (h1 : p → K .non) (h2 : ¬ p → Kx (xB a why)) : p_x_need [.bl (decide p), .int a, .str why] K Kx := by
  refine ⟨_, a, why, rfl, fun h => h1 (of_decide_eq_true h), fun h => h2 (of_decide_eq_false h)⟩
theorem need_f {a : Int} {why : Str} {K : D → Prop} {Kx : Xn → Prop} (h2 : Kx (xB a why)) : p_x_need [.bl false, .int a, .str why] K Kx := ⟨_, a, why, rfl, fun h => by (cases h), fun _ => h2⟩
/-! x need["good", "at", "why"] -/
def m_x_need {ω : Type} (Kx : Xn → Prop) (C : Cn ω) : SM C :=
  (ifM (notM (testM (nameM 0))) (rsXM "BadBook" 2 ["why", "at"] Kx (consA (nameM 1) (consA (nameM 2) nilA))) nextM)

theorem r_x_need {ω : Type} {C : Cn ω} (ds : List D) (Kp : D → Prop) (Kx : Xn → Prop) (hl : ds.length = 3) (hp : p_x_need ds Kp Kx) (w : ω) : m_x_need Kx C ⟨fun _ _ => Kp .non, fun d _ => Kp d, fun _ _ => False, fun _ _ => False⟩ (startG 3 [] ds) w := by
  obtain ⟨g, a, why, rfl, h1, h2⟩ := hp
  refine ⟨_, rfl, ?_⟩
  cases g with
  | true => exact (h1 rfl : Kp .non)
  | false =>
    refine (?_ : _ ∧ _)
    exact ⟨rfl, fun p hp => by
      rcases List.mem_cons.mp hp with rfl | hp
      · rfl
      · rw [List.mem_singleton] at hp; subst hp; rfl, h2 rfl⟩
--END x_need
def p_x_need_book : PX := fun ds K Kx => ∃ b, ds = [bkD b] ∧ (BkOk b → K .non) ∧ ∀ a why, Nb b a why → Kx (xB a why)
/-! x need_book["book", "cash", "claims", "house", "coins", "number", "claim"] -/
def m_x_need_book {ω : Type} (Kx : Xn → Prop) (C : Cn ω) : SM C :=
  (seqM (asgM (.tp [1, 2]) (nameM 0))
  (seqM (dropM (callX 3 [] p_x_need Kx (consA (chainM leF leF (constM (.int 1)) (callM lenF (consA (nameM 1) nilA)) (constM (.int 8))) (consA (constM (.int 0)) (consA (constM (.str "houses")) nilA)))))
  (seqM (forM (.tp [3, 4]) (iterEnT (consA (nameM 1) nilA)) (dropM (callX 3 [] p_x_need Kx (consA (chainM leF leF (constM (.int 0)) (nameM 4) (constM (.int 999))) (consA (nameM 3) (consA (constM (.str "cash")) nilA))))))
  (seqM (dropM (callX 3 [] p_x_need Kx (consA (binM leF (callM lenF (consA (nameM 2) nilA)) (constM (.int 24))) (consA (constM (.int 0)) (consA (constM (.str "claims")) nilA)))))
  (forM (.tp [5, 6]) (iterEnT (consA (nameM 2) nilA)) (seqM (forM (.nm 3) (iterT (slM (nameM 6) noPart (partM (constM (.int 2))))) (dropM (callX 3 [] p_x_need Kx (consA (chainM leF ltF (constM (.int 0)) (nameM 3) (callM lenF (consA (nameM 1) nilA))) (consA (nameM 5) (consA (constM (.str "house")) nilA))))))
  (seqM (dropM (callX 3 [] p_x_need Kx (consA (binM neF (binM ixF (nameM 6) (constM (.int 0))) (binM ixF (nameM 6) (constM (.int 1)))) (consA (nameM 5) (consA (constM (.str "house")) nilA)))))
  (seqM (dropM (callX 3 [] p_x_need Kx (consA (chainM leF leF (constM (.int 1)) (binM ixF (nameM 6) (constM (.int 2))) (constM (.int 999))) (consA (nameM 5) (consA (constM (.str "amount")) nilA)))))
  (dropM (callX 3 [] p_x_need Kx (consA (chainM leF leF (constM (.int 1)) (binM ixF (nameM 6) (constM (.int 3))) (constM (.int 9))) (consA (nameM 5) (consA (constM (.str "rank")) nilA)))))))))))))

set_option maxHeartbeats 4000000 in
theorem r_x_need_book {ω : Type} {C : Cn ω} (ds : List D) (Kp : D → Prop) (Kx : Xn → Prop) (hl : ds.length = 1) (hp : p_x_need_book ds Kp Kx) (w : ω) : m_x_need_book Kx C ⟨fun _ _ => Kp .non, fun d _ => Kp d, fun _ _ => False, fun _ _ => False⟩ (startG 7 [] ds) w := by
  obtain ⟨b, rfl, hk, hx⟩ := hp
  rw [st_bk]
  have ln : (b.cash.map D.int).length = b.n := List.length_map _
  have lm : (b.cl.map clD).length = b.m := List.length_map _
  refine ⟨rfl, asg_tp2 (flat_cash b) (flat_cls b) ?_⟩
  refine ⟨_, rfl, ?_⟩
  by_cases n1 : 1 ≤ b.n
  case neg => exact iteN (show ¬ (1 : Int) ≤ _ by rw [ln]; omega) ⟨rfl, rfl, need_f (hx 0 "houses" (.inl ⟨fun z => n1 z.1, rfl, rfl⟩))⟩
  refine iteP (show (1 : Int) ≤ _ by rw [ln]; omega) ⟨rfl, rfl, need_x (fun n8 => ?_) fun n8 => hx 0 "houses" (.inl ⟨fun z => n8 (by rw [ln]; omega), rfl, rfl⟩)⟩
  rw [ln] at n8
  have n8 : b.n ≤ 8 := by omega
  refine ⟨_, _, rfl, rfl, ?_⟩
  refine loop_by (fun k Γ w => (∀ j, j < k → CsOk (at' b.cash j)) ∧ ∃ s3 s4, Γ = [.val true (bkD b), .val true (cashD b), .val true (clsD b), s3, s4, .no, .no]) (fun k d Γ w N hd hI hN => ?_) (fun Γ w hI => ?_) ⟨fun j h => by omega, _, _, rfl⟩
  · obtain ⟨hp, s3, s4, rfl⟩ := hI
    obtain ⟨e, he, rfl⟩ := en_get hd
    obtain ⟨x, hx1, rfl⟩ := get_ints he
    have hkl : k < b.n := (List.getElem?_eq_some_iff.mp hx1).1
    have ex : at' b.cash k = x := by unfold at'; rw [List.getD_eq_getElem?_getD, hx1]; rfl
    have bad : ¬ CsOk x → Kx (xB (k : Int) "cash") := fun z => hx _ _ (.inr ⟨⟨n1, n8⟩, .inl ⟨k, hkl, hp, by rw [ex]; exact z, rfl, rfl⟩⟩)
    have good : CsOk x → N [.val true (bkD b), .val true (cashD b), .val true (clsD b), .val true (.int (k : Int)), .val true (.int x), .no, .no] w := fun z => hN _ _ ⟨fun j hj => by
      by_cases e : j = k
      · subst e; rw [ex]; exact z
      · exact hp j (by omega), _, _, rfl⟩
    refine asg_tp2 rfl rfl ⟨_, rfl, ?_⟩
    by_cases x0 : 0 ≤ x
    · exact iteP x0 ⟨rfl, rfl, need_x (fun x1 => good ⟨x0, x1⟩) fun x1 => bad fun z => x1 z.2⟩
    · exact iteN x0 ⟨rfl, rfl, need_f (bad fun z => x0 z.1)⟩
  · obtain ⟨hall, s3, s4, rfl⟩ := hI
    rw [enD_length, ln] at hall
    refine ⟨rfl, rfl, need_x (fun m24 => ?_) fun m24 => hx 0 "claims" (.inr ⟨⟨n1, n8⟩, .inr ⟨hall, .inl ⟨by rw [lm] at m24; omega, rfl, rfl⟩⟩⟩)⟩
    rw [lm] at m24
    have m24 : b.m ≤ 24 := by omega
    refine ⟨_, _, rfl, rfl, ?_⟩
    refine loop_by (fun k Γ w => (∀ j : Nat, j < k → ClOk b.n (b.at j)) ∧ ∃ s3 s4 s5 s6, Γ = [.val true (bkD b), .val true (cashD b), .val true (clsD b), s3, s4, s5, s6]) (fun k d Γ w N hd hI hN => ?_) (fun Γ w hI => ?_) ⟨fun j h => by omega, _, _, _, _, rfl⟩
    · obtain ⟨hp, s3, s4, s5, s6, rfl⟩ := hI
      obtain ⟨e, he, rfl⟩ := en_get hd
      obtain ⟨rfl, hkm⟩ := cl_get he
      have bad : ∀ why, ClBad b.n (b.at k) why → Kx (xB (k : Int) why) := fun why z => hx _ _ (.inr ⟨⟨n1, n8⟩, .inr ⟨hall, .inr ⟨m24, k, hkm, hp, z, rfl⟩⟩⟩)
      refine asg_tp2 rfl rfl ⟨_, rfl, _, rfl, rfl, ?_⟩
      refine loop_by (fun j Γ w => (0 < j → 0 ≤ (b.at k).d ∧ (b.at k).d < b.n) ∧ (1 < j → 0 ≤ (b.at k).c ∧ (b.at k).c < b.n) ∧ ∃ s3 s4, Γ = [.val true (bkD b), .val true (cashD b), .val true (clsD b), s3, s4, .val true (.int (k : Int)), .val true (clD (b.at k))]) (fun j d Γ w N' hd hI hN' => ?_) (fun Γ w hI => ?_) ⟨fun h => by omega, fun h => by omega, _, _, rfl⟩
      · obtain ⟨q1, q2, s3, s4, rfl⟩ := hI
        match j, hd with
        | 0, hd =>
          cases hd
          refine ⟨_, rfl, ?_⟩
          by_cases x0 : 0 ≤ (b.at k).d
          · exact iteP x0 ⟨rfl, rfl, need_x (fun x1 => hN' _ _ ⟨fun _ => ⟨x0, by rw [ln] at x1; exact x1⟩, fun h => by omega, _, _, rfl⟩) fun x1 => bad _ (.inl ⟨fun z => x1 (by rw [ln]; exact z.2.1), rfl⟩)⟩
          · exact iteN x0 ⟨rfl, rfl, need_f (bad _ (.inl ⟨fun z => x0 z.1, rfl⟩))⟩
        | 1, hd =>
          cases hd
          refine ⟨_, rfl, ?_⟩
          by_cases x0 : 0 ≤ (b.at k).c
          · exact iteP x0 ⟨rfl, rfl, need_x (fun x1 => hN' _ _ ⟨fun _ => q1 (by omega), fun _ => ⟨x0, by rw [ln] at x1; exact x1⟩, _, _, rfl⟩) fun x1 => bad _ (.inl ⟨fun z => x1 (by rw [ln]; exact z.2.2.2.1), rfl⟩)⟩
          · exact iteN x0 ⟨rfl, rfl, need_f (bad _ (.inl ⟨fun z => x0 z.2.2.1, rfl⟩))⟩
      · obtain ⟨q1, q2, s3, s4, rfl⟩ := hI
        obtain ⟨d0, d1⟩ := q1 (by show 0 < 2; decide)
        obtain ⟨c0, c1⟩ := q2 (by show 1 < 2; decide)
        refine ⟨_, rfl, _, rfl, cmp_int _, cmp_int _, rfl, rfl, ?_⟩
        have e1 : (!(D.int (b.at k).d).eqv (.int (b.at k).c)) = decide ((b.at k).d ≠ (b.at k).c) := by rw [eqv_int]; simp
        show p_x_need [.bl (!(D.int (b.at k).d).eqv (.int (b.at k).c)), _, _] _ _
        rw [e1]
        refine need_x (fun ne => ?_) fun ne => bad _ (.inl ⟨fun z => ne z.2.2.2.2, rfl⟩)
        have hs : HsOk b.n (b.at k) := ⟨d0, d1, c0, c1, ne⟩
        refine ⟨_, rfl, _, rfl, ?_⟩
        by_cases a0 : 1 ≤ (b.at k).a
        case neg => exact iteN a0 ⟨rfl, rfl, need_f (bad _ (.inr (.inl ⟨hs, fun z => a0 z.1, rfl⟩)))⟩
        refine iteP a0 ⟨rfl, rfl, need_x (fun a1 => ?_) fun a1 => bad _ (.inr (.inl ⟨hs, fun z => a1 z.2, rfl⟩))⟩
        refine ⟨_, rfl, _, rfl, ?_⟩
        by_cases r0 : 1 ≤ (b.at k).r
        case neg => exact iteN r0 ⟨rfl, rfl, need_f (bad _ (.inr (.inr ⟨hs, ⟨a0, a1⟩, fun z => r0 z.1, rfl⟩)))⟩
        refine iteP r0 ⟨rfl, rfl, need_x (fun r1 => ?_) fun r1 => bad _ (.inr (.inr ⟨hs, ⟨a0, a1⟩, fun z => r1 z.2, rfl⟩))⟩
        refine hN _ _ ⟨fun j hj => ?_, _, _, _, _, rfl⟩
        by_cases e : j = k
        · subst e; exact ⟨d0, d1, c0, c1, ne, a0, a1, r0, r1⟩
        · exact hp j (by omega)
    · obtain ⟨hcl, _⟩ := hI
      rw [enD_length, lm] at hcl
      refine hk { n1 := n1, n8 := n8, m24 := m24, cash := fun x hx => ?_, cl := fun x hx => ?_, c999 := fun x hx => ?_ }
      · obtain ⟨i, hi⟩ := List.getElem?_of_mem hx
        have hil : i < b.n := (List.getElem?_eq_some_iff.mp hi).1
        have := hall i hil
        unfold at' at this
        rw [List.getD_eq_getElem?_getD, hi] at this
        have h2 : 0 ≤ x ∧ x ≤ 999 := this
        omega
      · obtain ⟨i, hi⟩ := List.getElem?_of_mem hx
        have hil : i < b.m := (List.getElem?_eq_some_iff.mp hi).1
        have := hcl i hil
        unfold Bk.at at this
        rw [Int.toNat_natCast, List.getD_eq_getElem?_getD, hi] at this
        exact this
      · obtain ⟨i, hi⟩ := List.getElem?_of_mem hx
        have hil : i < b.n := (List.getElem?_eq_some_iff.mp hi).1
        have := hall i hil
        unfold at' at this
        rw [List.getD_eq_getElem?_getD, hi] at this
        have h2 : 0 ≤ x ∧ x ≤ 999 := this
        omega
--END x_need_book
end VS

namespace VS
open PySem PySem.Spec PyProof.Rows L2
open Mx (Cl Bk BkOk BkW ClOk on owe grp payG payP ranks9 pick at' sh coin)
/-! ### the law k16 -/
def xT (r : Int) : Xn := ⟨"BadText", some [("row", .int r)]⟩
/-- a claim's row that is none -/
def badRow (s : Str) : Bool := decide ((Txt.split s " ").length ≠ 6) || (decide ((Txt.split s " ").getD 1 "" ≠ "owes") || (decide ((Txt.split s " ").getD 4 "" ≠ "at") || !(numB ((Txt.split s " ").getD 0 "") && (numB ((Txt.split s " ").getD 2 "") && (numB ((Txt.split s " ").getD 3 "") && numB ((Txt.split s " ").getD 5 ""))))))
def badHead (s : Str) : Bool := decide (1 ≤ (Txt.split s " ").length) && (decide ((Txt.split s " ").getD 0 "" ≠ "cash") || (decide ((Txt.split s " ").length < 2) || !((Txt.split s " ").drop 1).all numB))
/-- sizes -/
def okS (s : Str) : Bool := decide (s.length ≤ 1000 ∧ (Txt.split s " ").length ≤ 1000) && ((Txt.split s " ").all fun w => decide (w.length ≤ 1000) && (TL.tl w).all fun c => decide (c < 1114112))
theorem okS_of {s : Str} (h : okS s = true) : (s.length ≤ 1000 ∧ (Txt.split s " ").length ≤ 1000) ∧ ∀ w ∈ Txt.split s " ", w.length ≤ 1000 ∧ ∀ c ∈ TL.tl w, c < 1114112 := by
  unfold okS at h
  obtain ⟨h1, h2⟩ := Bool.and_eq_true_iff.mp h
  refine ⟨of_decide_eq_true h1, fun w hw => ?_⟩
  obtain ⟨h3, h4⟩ := Bool.and_eq_true_iff.mp (List.all_eq_true.mp h2 w hw)
  exact ⟨of_decide_eq_true h3, fun c hc => of_decide_eq_true (List.all_eq_true.mp h4 c hc)⟩
def p_x_numbers_of : PX := fun ds K Kx => ∃ (ws : List Str) (row : Int), ds = [.lst (ws.map D.str), .int row] ∧ ws.length ≤ 1000 ∧ (∀ w ∈ ws, w.length ≤ 1000 ∧ ∀ c ∈ TL.tl w, c < 1114112) ∧
  ((∃ ns : List Int, ws = ns.map nS ∧ (∀ n ∈ ns, 0 ≤ n ∧ n < 1000000000) ∧ K (.tup (ns.map D.int))) ∨ (ws.all numB = false ∧ Kx (xT row)))
/-! x numbers_of["words", "row", "word"] -/
def m_x_numbers_of {ω : Type} (Kx : Xn → Prop) (C : Cn ω) : SM C :=
  (seqM (forM (.nm 2) (iterL (nameM 0)) (ifM (notM (testM (c_is_number (consA (nameM 2) nilA)))) (rsXM "BadText" 1 ["row"] Kx (consA (nameM 1) nilA)) nextM))
  (retM (callM tupleF (consA (lcM (.nm 2) (iterL (nameM 0)) yesM (callM intSF (consA (nameM 2) nilA)) [2]) nilA))))

theorem r_x_numbers_of {ω : Type} {C : Cn ω} (ds : List D) (Kp : D → Prop) (Kx : Xn → Prop) (hl : ds.length = 2) (hp : p_x_numbers_of ds Kp Kx) (w : ω) : m_x_numbers_of Kx C ⟨fun _ _ => Kp .non, fun d _ => Kp d, fun _ _ => False, fun _ _ => False⟩ (startG 3 [] ds) w := by
  obtain ⟨ws, row, rfl, hln, hsz, hc⟩ := hp
  have st : startG 3 [] [D.lst (ws.map D.str), .int row] = [.val false (.lst (ws.map D.str)), .val true (.int row), .no] := rfl
  rw [st]
  refine ⟨_, rfl, rfl, ?_⟩
  refine loop_by (fun k Γ w => (∀ x ∈ ws.take k, numB x = true) ∧ ∃ s2, (∀ d, s2 ≠ .own d) ∧ Γ = [.val false (.lst (ws.map D.str)), .val true (.int row), s2]) (fun k d Γ w N hd hI hN => ?_) (fun Γ w hI => ?_) ⟨(fun x hx => by simp at hx), _, (fun d z => by cases z), rfl⟩
  · obtain ⟨ho, s2, _, rfl⟩ := hI
    rw [List.getElem?_map] at hd
    cases hx : ws[k]? with
    | none => rw [hx] at hd; cases hd
    | some x =>
    rw [hx] at hd; cases hd
    have hm := List.mem_of_getElem? hx
    obtain ⟨z1, z2⟩ := hsz x hm
    refine asg_flat rfl ⟨rfl, rfl, x, rfl, by omega, z2, _, rfl, ?_⟩
    by_cases q : numB x = true
    · rw [q]
      refine iteFx rfl (hN _ _ ⟨fun y hy => ?_, .val true (.str x), (fun d z => by cases z), rfl⟩)
      rw [List.take_add_one, hx] at hy
      rcases List.mem_append.mp hy with hy | hy
      · exact ho y hy
      · have : y = x := by simpa using hy
        rw [this]; exact q
    · rw [Bool.eq_false_iff.mpr q]
      refine iteTx rfl ⟨rfl, (fun p hp => by rw [List.mem_singleton.mp hp]; rfl), ?_⟩
      rcases hc with ⟨ns, rfl, hb, _⟩ | ⟨_, hk⟩
      · obtain ⟨n, hn, rfl⟩ := List.mem_map.mp hm
        exact absurd (numB_nS (hb n hn).1 (hb n hn).2) q
      · exact hk
  obtain ⟨ho, s2, h2, rfl⟩ := hI
  rw [List.length_map, List.take_length] at ho
  rcases hc with ⟨ns, rfl, hb, hk⟩ | ⟨hb, _⟩
  · refine ⟨_, rfl, ?_, ?_⟩
    · cases s2 <;> first | rfl | exact absurd rfl (h2 _)
    refine lc_ints2 ns (by rw [List.length_map] at hln; omega) (fun n hn N hN => ?_) ?_
    · refine asg_flat rfl ⟨_, _, n, rfl, nS_read (hb n hn).1 (hb n hn).2, by have := (num_len (hb n hn).1 (hb n hn).2).2; omega, hN⟩
    · refine ⟨by rw [nmL_ints]; rfl, ?_, hk⟩
      rw [nmL_ints]; rfl
  · rw [List.all_eq_true.mpr ho] at hb; cases hb
def p_x_claim_of : PX := fun ds K Kx => ∃ (s : Str) (at_ : Int), ds = [.str s, .int at_] ∧ ((∃ x, s = rowS x ∧ SmC x ∧ K (clD x)) ∨ (badRow s = true ∧ okS s = true ∧ Kx (xT at_)))
theorem strs_get {l : List Str} {k : Nat} (h : k < l.length) : l[k]? = some (l.getD k "") := by rw [List.getD_eq_getElem?_getD, List.getElem?_eq_getElem h]; rfl
theorem eqv_ne {s t : Str} (h : s ≠ t) : (D.str s).eqv (.str t) = false := by rw [eqv_str]; exact beq_eq_false_iff_ne.mpr h
theorem cmp_w {l : List Str} (h : ∀ w ∈ l, w.length ≤ 1000 ∧ ∀ c ∈ TL.tl w, c < 1114112) {k : Nat} (hk : k < l.length) : (D.str (l.getD k "")).cmp := cmp_str (h _ (by rw [List.getD_eq_getElem?_getD, List.getElem?_eq_getElem hk]; exact List.getElem_mem _)).2
/-! x claim_of["row", "at", "words"] -/
def m_x_claim_of {ω : Type} (Kx : Xn → Prop) (C : Cn ω) : SM C :=
  (seqM (asgM (.nm 2) (splitM (nameM 0) (constM (.str " "))))
  (seqM (ifM (orM (testM (binM neF (callM lenF (consA (nameM 2) nilA)) (constM (.int 6)))) (orM (testM (binM neF (binM ixF (nameM 2) (constM (.int 1))) (constM (.str "owes")))) (testM (binM neF (binM ixF (nameM 2) (constM (.int 4))) (constM (.str "at")))))) (rsXM "BadText" 1 ["row"] Kx (consA (nameM 1) nilA)) nextM)
  (retM (callX 2 [] p_x_numbers_of Kx (consA (lstM (consA (binM ixF (nameM 2) (constM (.int 0))) (consA (binM ixF (nameM 2) (constM (.int 2))) (consA (binM ixF (nameM 2) (constM (.int 3))) (consA (binM ixF (nameM 2) (constM (.int 5))) nilA))))) (consA (nameM 1) nilA))))))

theorem r_x_claim_of {ω : Type} {C : Cn ω} (ds : List D) (Kp : D → Prop) (Kx : Xn → Prop) (hl : ds.length = 2) (hp : p_x_claim_of ds Kp Kx) (w : ω) : m_x_claim_of Kx C ⟨fun _ _ => Kp .non, fun d _ => Kp d, fun _ _ => False, fun _ _ => False⟩ (startG 3 [] ds) w := by
  obtain ⟨s, at_, rfl, hc⟩ := hp
  have st : startG 3 [] [D.str s, .int at_] = [.val true (.str s), .val true (.int at_), .no] := rfl
  rw [st]
  have raise_ : Kx (xT at_) → ∀ (Γ : List Sl) (w : ω), Γ[1]? = some (.val true (.int at_)) → (rsXM "BadText" 1 ["row"] Kx (consA (nameM 1) nilA) : SM C) ⟨fun _ _ => Kp .non, fun d _ => Kp d, fun _ _ => False, fun _ _ => False⟩ Γ w := fun hk Γ w h => by
    unfold rsXM consA nilA nameM
    rw [h]
    exact ⟨rfl, (fun p hp => by rw [List.mem_singleton.mp hp]; rfl), hk⟩
  rcases hc with ⟨x, rfl, hx, hk⟩ | ⟨hb, ho, hk⟩
  · have hrl := row_len hx
    refine ⟨_, rfl, _, rfl, by decide +kernel, by omega, ?_⟩
    rw [row_split hx]
    refine ⟨rfl, asg_fx rfl ?_⟩
    refine ⟨cmp_int _, cmp_int _, _, rfl, iteFx (by rw [eqv_int]; rfl) ?_⟩
    refine ⟨_, ix_str (s := "owes") (by decide) rfl, cmp_owes, cmp_owes, _, rfl, iteFx (by rw [eqv_sstr]; rfl) ?_⟩
    refine ⟨_, ix_str (s := "at") (by decide) rfl, cmp_at, cmp_at, _, rfl, iteFx (by rw [eqv_sstr]; rfl) ?_⟩
    refine ⟨_, ix_str (s := nS x.d) (by decide) rfl, _, ix_str (s := nS x.c) (by decide) rfl, _, ix_str (s := nS x.a) (by decide) rfl, _, ix_str (s := nS x.r) (by decide) rfl, (by show 4 ≤ 1000; decide), rfl, ?_⟩
    have hsm : ∀ n ∈ [x.d, x.c, x.a, x.r], 0 ≤ n ∧ n < 1000000000 := fun n hn => by
      obtain ⟨h1, h2, h3, h4⟩ := hx
      simp only [List.mem_cons, List.not_mem_nil, or_false] at hn
      rcases hn with rfl | rfl | rfl | rfl <;> assumption
    refine ⟨rfl, rfl, [x.d, x.c, x.a, x.r].map nS, at_, rfl, (by show 4 ≤ 1000; decide), fun w hw => ?_, .inl ⟨[x.d, x.c, x.a, x.r], rfl, hsm, rfl, rfl, hk⟩⟩
    obtain ⟨n, hn, rfl⟩ := List.mem_map.mp hw
    obtain ⟨q1, q2⟩ := hsm n hn
    exact ⟨by have := (num_len q1 q2).2; omega, fun c hc => by have := num_dig q1 c hc; omega⟩
  · obtain ⟨⟨z1, z1'⟩, z2⟩ := okS_of ho
    refine ⟨_, rfl, _, rfl, by decide +kernel, by omega, ?_⟩
    refine ⟨rfl, asg_fx rfl ?_⟩
    unfold badRow at hb
    generalize Txt.split s " " = ws at hb z2 z1' ⊢
    have hl : ((ws.map D.str).length : Int) = (ws.length : Int) := by rw [List.length_map]
    refine ⟨cmp_int _, cmp_int _, _, rfl, ?_⟩
    rw [eqv_int, hl]
    by_cases h6 : ws.length = 6
    case neg => exact iteTx (by rw [decide_eq_false (by omega)]; rfl) (raise_ hk _ _ rfl)
    rw [decide_eq_false (not_not_intro h6), Bool.false_or] at hb
    refine iteFx (by rw [decide_eq_true (by omega)]; rfl) ?_
    refine ⟨_, ix_str (s := ws.getD 1 "") (by decide) (strs_get (k := 1) (by omega)), cmp_w z2 (by omega), cmp_owes, _, rfl, ?_⟩
    by_cases h1 : ws.getD 1 "" = "owes"
    case neg => exact iteTx (by rw [eqv_ne h1]; rfl) (raise_ hk _ _ rfl)
    rw [decide_eq_false (not_not_intro h1), Bool.false_or] at hb
    refine iteFx (by rw [h1, eqv_sstr]; rfl) ?_
    refine ⟨_, ix_str (s := ws.getD 4 "") (by decide) (strs_get (k := 4) (by omega)), cmp_w z2 (by omega), cmp_at, _, rfl, ?_⟩
    by_cases h4 : ws.getD 4 "" = "at"
    case neg => exact iteTx (by rw [eqv_ne h4]; rfl) (raise_ hk _ _ rfl)
    rw [decide_eq_false (not_not_intro h4), Bool.false_or] at hb
    refine iteFx (by rw [h4, eqv_sstr]; rfl) ?_
    refine ⟨_, ix_str (s := ws.getD 0 "") (by decide) (strs_get (k := 0) (by omega)), _, ix_str (s := ws.getD 2 "") (by decide) (strs_get (k := 2) (by omega)), _, ix_str (s := ws.getD 3 "") (by decide) (strs_get (k := 3) (by omega)), _, ix_str (s := ws.getD 5 "") (by decide) (strs_get (k := 5) (by omega)), (by show 4 ≤ 1000; decide), rfl, ?_⟩
    refine ⟨rfl, rfl, [ws.getD 0 "", ws.getD 2 "", ws.getD 3 "", ws.getD 5 ""], at_, rfl, (by show 4 ≤ 1000; decide), fun w hw => ?_, .inr ⟨?_, hk⟩⟩
    · have hg : ∀ k, k < 6 → ws.getD k "" ∈ ws := fun k hk => by rw [List.getD_eq_getElem?_getD, List.getElem?_eq_getElem (by omega)]; exact List.getElem_mem _
      simp only [List.mem_cons, List.not_mem_nil, or_false] at hw
      rcases hw with rfl | rfl | rfl | rfl <;> exact z2 _ (hg _ (by decide))
    · rw [Bool.not_eq_true'] at hb
      show (numB (ws.getD 0 "") && (numB (ws.getD 2 "") && (numB (ws.getD 3 "") && (numB (ws.getD 5 "") && true)))) = false
      rw [Bool.and_true]; exact hb
--END x_claim_of
def SmL (cs : List Int) : Prop := 1 ≤ cs.length ∧ cs.length ≤ 10 ∧ ∀ x ∈ cs, 0 ≤ x ∧ x < 1000000000
theorem head_len {cs : List Int} (h : SmL cs) : (cashS ⟨cs, []⟩).length ≤ 200 := by
  obtain ⟨_, h8, hs⟩ := h
  rw [TL.len_tl]
  unfold cashS
  rw [TL.tl_append, tl_join', tl_sp, tl_cashs, List.length_append]
  have := joinL_len (S := [32]) (k := 9) (ps := (cs.map nS).map TL.tl) fun p hp => by
    obtain ⟨q, hq, rfl⟩ := List.mem_map.mp hp
    obtain ⟨x, hx, rfl⟩ := List.mem_map.mp hq
    have := hs x hx
    rw [← TL.len_tl]; exact (num_len this.1 this.2).2
  rw [List.length_map, List.length_map] at this
  simp only [List.length_cons, List.length_nil] at this ⊢
  omega
def p_x_cash_of : PX := fun ds K Kx => ∃ s : Str, ds = [.str s] ∧ ((∃ cs : List Int, s = cashS ⟨cs, []⟩ ∧ SmL cs ∧ K (.tup (cs.map D.int))) ∨ (badHead s = true ∧ okS s = true ∧ Kx (xT 0)))
/-! x cash_of["row", "words"] -/
def m_x_cash_of {ω : Type} (Kx : Xn → Prop) (C : Cn ω) : SM C :=
  (seqM (asgM (.nm 1) (splitM (nameM 0) (constM (.str " "))))
  (seqM (ifM (orM (testM (binM neF (binM ixF (nameM 1) (constM (.int 0))) (constM (.str "cash")))) (testM (binM ltF (callM lenF (consA (nameM 1) nilA)) (constM (.int 2))))) (rsXM "BadText" 1 ["row"] Kx (consA (constM (.int 0)) nilA)) nextM)
  (retM (callX 2 [] p_x_numbers_of Kx (consA (slM (nameM 1) (partM (constM (.int 1))) noPart) (consA (constM (.int 0)) nilA))))))

theorem r_x_cash_of {ω : Type} {C : Cn ω} (ds : List D) (Kp : D → Prop) (Kx : Xn → Prop) (hl : ds.length = 1) (hp : p_x_cash_of ds Kp Kx) (w : ω) : m_x_cash_of Kx C ⟨fun _ _ => Kp .non, fun d _ => Kp d, fun _ _ => False, fun _ _ => False⟩ (startG 2 [] ds) w := by
  obtain ⟨s, rfl, hc⟩ := hp
  have st : startG 2 [] [D.str s] = [.val true (.str s), .no] := rfl
  rw [st]
  have raise_ : Kx (xT 0) → ∀ (Γ : List Sl) (w : ω), (rsXM "BadText" 1 ["row"] Kx (consA (constM (.int 0)) nilA) : SM C) ⟨fun _ _ => Kp .non, fun d _ => Kp d, fun _ _ => False, fun _ _ => False⟩ Γ w := fun hk Γ w => ⟨rfl, (fun p hp => by rw [List.mem_singleton.mp hp]; rfl), hk⟩
  rcases hc with ⟨cs, rfl, hcs, hk⟩ | ⟨hb, ho, hk⟩
  · have hcl := head_len hcs
    obtain ⟨h1, h10, hs⟩ := hcs
    refine ⟨_, rfl, _, rfl, by decide +kernel, by omega, ?_⟩
    rw [cash_split (b := ⟨cs, []⟩) h1 hs]
    refine ⟨rfl, asg_fx rfl ?_⟩
    have lc : ((cashPs ⟨cs, []⟩).map D.str).length = cs.length + 1 := by unfold cashPs; simp
    refine ⟨_, ix_str (s := "cash") (by decide) rfl, cmp_cash, cmp_cash, _, rfl, iteFx (by rw [eqv_sstr]; rfl) ⟨_, rfl, iteN (by rw [lc]; omega) ?_⟩⟩
    refine ⟨_, rfl, ?_⟩
    unfold noPart
    dsimp only [slD]
    rw [cut_hi (by decide) (by rw [lc]; omega)]
    have ed : ((cashPs ⟨cs, []⟩).map D.str).drop (1 : Int).toNat = (cs.map nS).map D.str := rfl
    rw [ed]
    refine ⟨rfl, rfl, cs.map nS, 0, rfl, by rw [List.length_map]; omega, fun w hw => ?_, .inl ⟨cs, rfl, hs, rfl, by show (true || _) = true; rfl, hk⟩⟩
    obtain ⟨n, hn, rfl⟩ := List.mem_map.mp hw
    obtain ⟨q1, q2⟩ := hs n hn
    exact ⟨by have := (num_len q1 q2).2; omega, fun c hc => by have := num_dig q1 c hc; omega⟩
  · obtain ⟨⟨z1, z1'⟩, z2⟩ := okS_of ho
    refine ⟨_, rfl, _, rfl, by decide +kernel, by omega, ?_⟩
    refine ⟨rfl, asg_fx rfl ?_⟩
    have hwl : (Txt.split s " ").length ≤ 1000 := z1'
    unfold badHead at hb
    generalize Txt.split s " " = ws at hb z2 hwl z1' ⊢
    obtain ⟨h0, hb⟩ := Bool.and_eq_true_iff.mp hb
    have h0 := of_decide_eq_true h0
    have hl : (ws.map D.str).length = ws.length := List.length_map _
    refine ⟨_, ix_str (s := ws.getD 0 "") (by decide) (strs_get (k := 0) (by omega)), cmp_w z2 (by omega), cmp_cash, _, rfl, ?_⟩
    by_cases h1 : ws.getD 0 "" = "cash"
    case neg => exact iteTx (by rw [eqv_ne h1]; rfl) (raise_ hk _ _)
    rw [decide_eq_false (not_not_intro h1), Bool.false_or] at hb
    refine iteFx (by rw [h1, eqv_sstr]; rfl) ⟨_, rfl, ?_⟩
    by_cases h2 : ws.length < 2
    · exact iteP (by rw [hl]; omega) (raise_ hk _ _)
    rw [decide_eq_false h2, Bool.false_or, Bool.not_eq_true'] at hb
    refine iteN (by rw [hl]; omega) ?_
    refine ⟨_, rfl, ?_⟩
    unfold noPart
    dsimp only [slD]
    rw [cut_hi (by decide) (by rw [hl]; omega), ← List.map_drop]
    exact ⟨rfl, rfl, ws.drop 1, 0, rfl, by rw [List.length_drop]; omega, fun w hw => z2 w (List.mem_of_mem_drop hw), .inr ⟨hb, hk⟩⟩
--END x_cash_of
/-- what is told of rows that are no book's -/
def ReadX (r0 : Str) (rs : List Str) (KT : Int → Prop) (KB : Int → Str → Prop) : Prop :=
  (badHead r0 = true ∧ okS r0 = true ∧ KT 0) ∨ ∃ cs : List Int, r0 = cashS ⟨cs, []⟩ ∧ SmL cs ∧ ∃ (xs : List Cl) (tl : List Str), rs = xs.map rowS ++ tl ∧ (∀ x ∈ xs, SmC x) ∧
   ((∃ (bad : Str) (more : List Str), tl = bad :: more ∧ badRow bad = true ∧ okS bad = true ∧ KT ((xs.length : Int) + 1)) ∨ (tl = [] ∧ ∃ (a : Int) (why : Str), Nb ⟨cs, xs⟩ a why ∧ KB a why))
structure RowsOk (rs : List Str) : Prop where
  len : rs.length ≤ 100
  row : ∀ r ∈ rs, r.length ≤ 1000 ∧ 10 ∉ TL.tl r
theorem nb_no {b : Bk} {a : Int} {why : Str} (h : Nb b a why) (o : BkOk b) : False := by
  have cs : ∀ j, j < b.n → CsOk (at' b.cash j) := fun j hj => by
    have hm : at' b.cash j ∈ b.cash := by
      unfold at'; rw [List.getD_eq_getElem?_getD, List.getElem?_eq_getElem hj]; exact List.getElem_mem hj
    exact ⟨(o.cash _ hm).1, o.c999 _ hm⟩
  rcases h with ⟨p, _⟩ | ⟨_, ⟨i, i1, _, i3, _⟩ | ⟨_, ⟨m, _⟩ | ⟨_, k, k1, _, k3, _⟩⟩⟩
  · exact p ⟨o.n1, o.n8⟩
  · exact i3 (cs i i1)
  · have := o.m24; omega
  · exact k3.not (o.toBkW.at (by omega) (by omega))
theorem rows_len {rs : List Str} (h : RowsOk rs) : (Txt.join "\n" rs).length ≤ 200000 := by
  rw [TL.len_tl, tl_join', tl_nl]
  have := joinL_len (S := [10]) (k := 1000) (ps := rs.map TL.tl) fun p hp => by
    obtain ⟨q, hq, rfl⟩ := List.mem_map.mp hp
    rw [← TL.len_tl]; exact (h.row q hq).1
  rw [List.length_map] at this
  have hl := h.len
  simp only [List.length_cons, List.length_nil] at this
  omega
theorem rows_split {rs : List Str} (h : RowsOk rs) (hne : rs ≠ []) : Txt.split (Txt.join "\n" rs) "\n" = rs := TL.split_join (s := 10) (S := []) tl_nl (by decide +kernel) hne fun p hp => (h.row p hp).2
def p_x_read : PX := fun ds K Kx => ∃ (r0 : Str) (rs : List Str), ds = [.str (Txt.join "\n" (r0 :: rs))] ∧ RowsOk (r0 :: rs) ∧ ReadX r0 rs (fun i => Kx (xT i)) fun a why => Kx (xB a why)
/-! x read["text", "rows", "cash", "claims", "at"] -/
def m_x_read {ω : Type} (Kx : Xn → Prop) (C : Cn ω) : SM C :=
  (seqM (asgM (.nm 1) (splitM (nameM 0) (constM (.str "\n"))))
  (seqM (asgM (.nm 2) (callX 1 [] p_x_cash_of Kx (consA (binM ixF (nameM 1) (constM (.int 0))) nilA)))
  (seqM (asgM (.nm 3) (callM tupleF (consA (lcM (.nm 4) (iterR2 (consA (constM (.int 1)) (consA (callM lenF (consA (nameM 1) nilA)) nilA))) yesM (callX 2 [] p_x_claim_of Kx (consA (binM ixF (nameM 1) (nameM 4)) (consA (nameM 4) nilA))) [4]) nilA)))
  (seqM (dropM (callX 1 [] p_x_need_book Kx (consA (tupM (consA (nameM 2) (consA (nameM 3) nilA))) nilA)))
  (retM (tupM (consA (nameM 2) (consA (nameM 3) nilA))))))))

theorem r_x_read {ω : Type} {C : Cn ω} (ds : List D) (Kp : D → Prop) (Kx : Xn → Prop) (hl : ds.length = 1) (hp : p_x_read ds Kp Kx) (w : ω) : m_x_read Kx C ⟨fun _ _ => Kp .non, fun d _ => Kp d, fun _ _ => False, fun _ _ => False⟩ (startG 5 [] ds) w := by
  obtain ⟨r0, rs, rfl, hR, hc⟩ := hp
  have st : startG 5 [] [D.str (Txt.join "\n" (r0 :: rs))] = [.val true (.str (Txt.join "\n" (r0 :: rs))), .no, .no, .no, .no] := rfl
  rw [st]
  have htl := rows_len hR
  refine ⟨_, rfl, _, rfl, by decide +kernel, by omega, ?_⟩
  rw [rows_split hR (by simp)]
  refine ⟨rfl, asg_fx rfl ?_⟩
  refine ⟨_, ix_str (s := r0) (by decide) rfl, rfl, rfl, r0, rfl, ?_⟩
  rcases hc with ⟨h1, h2, hk⟩ | ⟨cs, rfl, hcs, xs, tl, rfl, hxs, hc⟩
  · exact .inr ⟨h1, h2, hk⟩
  refine .inl ⟨cs, rfl, hcs, rfl, asg_flat (flats_ints cs) ?_⟩
  have hlen := hR.len
  have lr : ((cashS ⟨cs, []⟩ :: (xs.map rowS ++ tl)).map D.str).length = xs.length + tl.length + 1 := by simp
  have hl2 : xs.length + tl.length + 1 ≤ 100 := by simpa using hlen
  refine ⟨_, _, _, _, rfl, by decide, by decide, by rw [lr]; omega, by rw [lr]; omega, rfl, ?_⟩
  have nmc : ∀ (m : Md) (l : List Cl), nmL m (l.map clD) = .F := fun m l => by unfold nmL; rw [if_pos (flats_cl l)]
  refine lc_by (fun k w' m acc => m = .F ∧ k ≤ xs.length ∧ acc = (xs.take k).map clD) (fun k d w' m acc N h1 h2 h3 => ?_) (fun w' m acc h => ?_) ⟨rfl, Nat.zero_le _, rfl⟩
  · obtain ⟨rfl, hk, rfl⟩ := h2
    obtain ⟨rfl, hlt⟩ := rng_get h1
    rw [lr] at hlt
    have hlt : k < xs.length + tl.length := by omega
    by_cases q : k < xs.length
    · obtain ⟨x, hx⟩ : ∃ x, xs[k]? = some x := ⟨_, List.getElem?_eq_getElem q⟩
      have hi : (cashS ⟨cs, []⟩ :: (xs.map rowS ++ tl))[(1 + (k : Int)).toNat]? = some (rowS x) := by
        rw [show (1 + (k : Int)).toNat = k + 1 by omega, List.getElem?_cons_succ, List.getElem?_append_left (by rw [List.length_map]; exact q), List.getElem?_map, hx]; rfl
      refine asg_flat rfl ⟨_, ix_str (by omega) hi, rfl, rfl, rowS x, _, rfl, .inl ⟨x, rfl, hxs x (List.mem_of_getElem? hx), ?_⟩⟩
      refine ⟨rfl, by rw [List.length_map, List.length_take]; omega, h3 _ _ _ ⟨?_, q, ?_⟩⟩
      · unfold nm
        rw [if_pos (show (clD x).flat = true from rfl)]; rfl
      · rw [List.take_add_one, hx, List.map_append]; rfl
    · have ek : k = xs.length := by omega
      rcases hc with ⟨bad, more, rfl, b1, b2, hk⟩ | ⟨rfl, _⟩
      · have hi : (cashS ⟨cs, []⟩ :: (xs.map rowS ++ bad :: more))[(1 + (k : Int)).toNat]? = some bad := by
          rw [show (1 + (k : Int)).toNat = k + 1 by omega, List.getElem?_cons_succ, List.getElem?_append_right (by rw [List.length_map]; omega), List.length_map, ek, Nat.sub_self]; rfl
        have e2 : (xs.length : Int) + 1 = 1 + (k : Int) := by omega
        rw [e2] at hk
        exact asg_flat rfl ⟨_, ix_str (by omega) hi, rfl, rfl, bad, _, rfl, .inr ⟨b1, b2, hk⟩⟩
      · simp at hlt; omega
  obtain ⟨rfl, hk, rfl⟩ := h
  rw [rng_len, lr] at hk
  rcases hc with ⟨bad, more, rfl, _⟩ | ⟨rfl, a, why, hnb, hk2⟩
  · rw [List.length_cons] at hk; omega
  rw [rng_len, lr, show xs.take (((xs.length + ([] : List Str).length + 1 : Nat) : Int) - 1).toNat = xs from List.take_of_length_le (by simp)]
  refine ⟨by rw [nmc]; rfl, asg_flat (flat_cls ⟨cs, xs⟩) ?_⟩
  refine ⟨(by show 2 ≤ 1000; decide), ?_⟩
  show (jn [(_, cashD ⟨cs, xs⟩), (_, clsD ⟨cs, xs⟩)]).ok = true ∧ _
  rw [jn_bk]
  refine ⟨rfl, rfl, rfl, ⟨cs, xs⟩, rfl, fun o => (nb_no hnb o).elim, fun a' why' h' => ?_⟩
  obtain ⟨rfl, rfl⟩ := hnb.uniq h'
  exact hk2
--END x_read
def p_l_refusal : PD := fun ds K => ∃ (r0 : Str) (rs : List Str), ds = [.lst ((r0 :: rs).map D.str)] ∧ RowsOk (r0 :: rs) ∧ ReadX r0 rs (fun i => K (.int i)) fun a why => K (.tup [.int a, .str why])
theorem ReadX.imp {r0 : Str} {rs : List Str} {KT KT' : Int → Prop} {KB KB' : Int → Str → Prop} (h : ReadX r0 rs KT KB) (f : ∀ i, KT i → KT' i) (g : ∀ a w, KB a w → KB' a w) : ReadX r0 rs KT' KB' := by
  rcases h with ⟨h1, h2, h⟩ | ⟨cs, h1, h2, xs, tl, h3, h4, h⟩
  · exact .inl ⟨h1, h2, f _ h⟩
  · refine .inr ⟨cs, h1, h2, xs, tl, h3, h4, ?_⟩
    rcases h with ⟨bad, more, h5, h6, h7, h⟩ | ⟨h5, a, why, h6, h⟩
    · exact .inl ⟨bad, more, h5, h6, h7, f _ h⟩
    · exact .inr ⟨h5, a, why, h6, g _ _ h⟩
/-! try _law_refusal["_law_rows", "e"] -/
def m_l_refusal_h (H : Hp) (x : Xn) (a : Addr) : SM (nC H) :=
  (seqM (ifM (orM (testM (exisTM x a 1 ["BadPayments", "NoHouse", "NoMove"])) (notM (testM (exisM x a 1 "ValueError")))) (retM (constM .non)) nextM)
  (seqM (ifM (testM (exisM x a 1 "BadText")) (retM (ifE (testM (exisM x a 1 "BadBook")) (constM .non) (exfC x a 1 "BadText" "row"))) nextM)
  (retM (tupM (consA (exfC x a 1 "BadBook" "at") (consA (exfC x a 1 "BadBook" "why") nilA))))))
def m_l_refusal {A0 : Addr → Prop} {H0 : Hp} {hA : ∀ b, A0 b → H0 b ≠ none} : SM (pureC A0 H0 hA) :=
  (seqM (tryE 1 ["BadText", "BadBook"] 1 [] p_x_read (consA (joinM (constM (.str "\n")) (nameM 0)) nilA) m_l_refusal_h)
  (retM (constM .non)))
abbrev c_l_refusal {ω : Type} {C : Cn ω} (ts : AM C) : EM C := callD 1 [] p_l_refusal ts

theorem r_l_refusal {A0 : Addr → Prop} {H0 : Hp} {hA : ∀ b, A0 b → H0 b ≠ none} (ds : List D) (Kp : D → Prop) (hl : ds.length = 1) (hp : p_l_refusal ds Kp) : m_l_refusal (A0 := A0) (H0 := H0) (hA := hA) ⟨fun _ _ => Kp .non, fun d _ => Kp d, fun _ _ => False, fun _ _ => False⟩ (startG 2 [] ds) () := by
  obtain ⟨r0, rs, rfl, hR, hc⟩ := hp
  have st : startG 2 [] [D.lst ((r0 :: rs).map D.str)] = [.val false (.lst ((r0 :: rs).map D.str)), .no] := rfl
  rw [st]
  have hsum : ((r0 :: rs).map fun y => y.length).sum + (r0 :: rs).length * ("\n" : Str).length ≤ 1000000 := by
    have := sum_le (k := 1000) (l := (r0 :: rs).map fun y => y.length) fun x hx => by
      obtain ⟨p, hp, rfl⟩ := List.mem_map.mp hx
      exact (hR.row p hp).1
    have l10 : ("\n" : Str).length = 1 := len_k (by rw [tl_nl]; rfl)
    have hl := hR.len
    rw [List.length_map] at this
    rw [l10]; omega
  refine ⟨rfl, _, rfl, r0 :: rs, rfl, hsum, rfl, rfl, r0, rs, rfl, hR, hc.imp (fun i hk => ?_) fun a why hk => ?_⟩
  · have e0 : (["BadPayments", "NoHouse", "NoMove"] : List Str).any (exSub "BadText" ·) = false := by decide +kernel
    have e1 : exSub "BadText" "ValueError" = true := by decide +kernel
    have e2 : exSub "BadText" "BadText" = true := by decide +kernel
    have e3 : exSub "BadText" "BadBook" = false := by decide +kernel
    refine ⟨List.mem_cons_self .., fun H a => ?_⟩
    refine ⟨rfl, _, rfl, iteFx e0 ⟨rfl, _, rfl, iteNq e1 ⟨rfl, _, rfl, iteTx e2 ⟨rfl, _, rfl, iteFx e3 ?_⟩⟩⟩⟩
    exact ⟨rfl, rfl, _, _, rfl, rfl, rfl, rfl, rfl, rfl, hk⟩
  · have e0 : (["BadPayments", "NoHouse", "NoMove"] : List Str).any (exSub "BadBook" ·) = false := by decide +kernel
    have e1 : exSub "BadBook" "ValueError" = true := by decide +kernel
    have e2 : exSub "BadBook" "BadText" = false := by decide +kernel
    refine ⟨List.mem_cons_of_mem _ (List.mem_singleton.mpr rfl), fun H a => ?_⟩
    refine ⟨rfl, _, rfl, iteFx e0 ⟨rfl, _, rfl, iteNq e1 ⟨rfl, _, rfl, iteFx e2 ?_⟩⟩⟩
    exact ⟨rfl, rfl, _, _, rfl, rfl, rfl, rfl, rfl, _, _, rfl, rfl, rfl, by show 2 ≤ 1000; decide, rfl, rfl, rfl, rfl, hk⟩
--END l_refusal
/-! the law's rows -/
def headsL : List Str := ["", "cash", "cash ", "cash 01", "cash 1  2", "cash 1 ", "Cash 1", "cash x", "cash -1", "1", "cash 1234567890"]
def oddL : List Str := ["", " ", "0 owes 1 5 at", "0 owes 1 5 at 1 ", " 0 owes 1 5 at 1", "0 owes 1 5 at 01", "0 owes 1 5 at x", "0 owes 1 5", "0 owe 1 5 at 1", "0 owes 1 5 on 1", "0  owes 1 5 at 1", "cash 1", "0 owes 1 -5 at 1", "0 owes 1 5 at 1 1", "owes 0 1 5 at 1", "0 owes 1 1234567890 at 1", "a owes 1 5 at 1", "0 owes 1 05 at 1"]
def okR (s : Str) : Bool := decide (s.length ≤ 1000) && !decide (10 ∈ TL.tl s)
theorem heads_bad : (headsL.all fun s => badHead s && (okS s && okR s)) = true := by decide +kernel
theorem odd_bad : (oddL.all fun s => badRow s && (okS s && okR s)) = true := by decide +kernel
theorem nothing_ok : okR "nothing" = true := by decide +kernel
theorem okR_of {s : Str} (h : okR s = true) : s.length ≤ 1000 ∧ 10 ∉ TL.tl s := by
  unfold okR at h
  obtain ⟨h1, h2⟩ := Bool.and_eq_true_iff.mp h
  refine ⟨of_decide_eq_true h1, fun z => ?_⟩
  rw [decide_eq_true z] at h2; cases h2
theorem rowS_ok {x : Cl} (h : SmC x) : (rowS x).length ≤ 1000 ∧ 10 ∉ TL.tl (rowS x) := ⟨by have := row_len h; omega, fun z => by have := row_sgn h 10 z; omega⟩
theorem headS_ok {cs : List Int} (h : SmL cs) : (cashS ⟨cs, []⟩).length ≤ 1000 ∧ 10 ∉ TL.tl (cashS ⟨cs, []⟩) := ⟨by have := head_len h; omega, fun z => by have := cash_sgn (b := ⟨cs, []⟩) h.1 h.2.2 10 z; omega⟩
theorem smL_of {b : Bk} (hb : BkOk b) : SmL b.cash := ⟨hb.n1, by have := hb.n8; unfold Bk.n at this; omega, (smB hb).cash⟩
theorem rowsOk {r0 : Str} {xs : List Cl} {tl : List Str} (h0 : r0.length ≤ 1000 ∧ 10 ∉ TL.tl r0) (hx : ∀ x ∈ xs, SmC x) (ht : ∀ s ∈ tl, s.length ≤ 1000 ∧ 10 ∉ TL.tl s) (hl : xs.length + tl.length ≤ 99) : RowsOk (r0 :: (xs.map rowS ++ tl)) := ⟨by simp; omega, fun r hr => by
  rcases List.mem_cons.mp hr with rfl | hr
  · exact h0
  · rcases List.mem_append.mp hr with hr | hr
    · obtain ⟨x, hm, rfl⟩ := List.mem_map.mp hr
      exact rowS_ok (hx x hm)
    · exact ht r hr⟩
theorem cmp_iw {a : Int} {why : Str} (h : PyData.strOk why = true) : (D.tup [.int a, .str why]).cmp := by
  refine ⟨?_, ?_⟩
  · show ((D.int a).isPy && ((PyData.strOk why) && true)) = true
    rw [h]; rfl
  · show max 0 (max 0 0) + 1 ≤ 64
    decide
theorem eqv_self16 {d : D} (h : d.isPy = true) : d.eqv d = true := PySem.SeqAt.eqv_refl _ (D.canLay d h)
theorem str_row (n : Nat) (h : n ≤ 8) : ("0 owes " : Str) ++ nS (n : Int) ++ " 5 at 1" = rowS ⟨0, n, 5, 1⟩ := by
  have key : ∀ k : Fin 9, ("0 owes " : Str) ++ nS ((k.val : Nat) : Int) ++ " 5 at 1" = rowS ⟨0, ((k.val : Nat) : Int), 5, 1⟩ := by decide +kernel
  exact key ⟨n, by omega⟩
def rwD (z : Cl × Str) : D := .tup [.str (rowS z.1), .str z.2]
theorem flats_rw : ∀ l : List (Cl × Str), D.flats (l.map rwD) = true
  | [] => rfl
  | z :: l => by
    show (true && D.flats (l.map rwD)) = true
    rw [flats_rw l]; rfl
theorem nmL_rw (m : Md) (l : List (Cl × Str)) : nmL m (l.map rwD) = .F := by unfold nmL; rw [if_pos (flats_rw l)]
theorem nb_row {b : Bk} (hb : BkOk b) (hm : b.m ≤ 22) {x : Cl} {why : Str} (h : ClBad b.n x why) : Nb ⟨b.cash, b.cl ++ [x]⟩ ((b.m : Nat) : Int) why := by
  have el : (b.cl ++ [x]).length = b.m + 1 := by rw [List.length_append]; rfl
  refine .inr ⟨⟨hb.n1, hb.n8⟩, .inr ⟨fun j hj => ?_, .inr ⟨by show (b.cl ++ [x]).length ≤ 24; omega, b.m, by show b.m < (b.cl ++ [x]).length; omega, fun j hj => ?_, ?_, rfl⟩⟩⟩
  · have hj : j < b.cash.length := hj
    have hmm : at' b.cash j ∈ b.cash := by
      unfold at'; rw [List.getD_eq_getElem?_getD, List.getElem?_eq_getElem hj]; exact List.getElem_mem hj
    exact ⟨(hb.cash _ hmm).1, hb.c999 _ hmm⟩
  · have e : (⟨b.cash, b.cl ++ [x]⟩ : Bk).at (j : Int) = b.at (j : Int) := by
      unfold Bk.at
      rw [Int.toNat_natCast, List.getD_eq_getElem?_getD, List.getD_eq_getElem?_getD, List.getElem?_append_left (show j < b.cl.length from hj)]
    rw [e]
    exact hb.toBkW.at (by omega) (by omega)
  · have e : (⟨b.cash, b.cl ++ [x]⟩ : Bk).at ((b.m : Nat) : Int) = x := by
      unfold Bk.at
      rw [Int.toNat_natCast, List.getD_eq_getElem?_getD]
      show ((b.cl ++ [x])[b.cl.length]?).getD _ = x
      rw [List.getElem?_append_right (Nat.le_refl _), Nat.sub_self]; rfl
    rw [e]; exact h
/-! law["script", "h", "book_here", "rows", "heads", "odd", "at", "more", "many", "last", "none", "row", "why"] -/
def m_law_t1 (C : Cn Rng) : SM C :=
  (seqM (asgM (.tp [11, 12]) (binM ixF (nameM 10) (c_l_next (consA (nameM 1) (consA (callM lenF (consA (nameM 10) nilA)) nilA)))))
  (seqM (ifM (testM (binM neF (c_l_refusal (consA (binM addF (nameM 3) (lstM (consA (nameM 11) nilA))) nilA)) (tupM (consA (nameM 9) (consA (nameM 12) nilA))))) (retM (constM (.bl false))) nextM)
  (seqM (ifM (testM (binM neF (c_l_refusal (consA (binM addF (lstM (consA (binM addF (constM (.str "cash")) (binM mulSF (constM (.str " 0")) (constM (.int 9)))) nilA)) (slM (nameM 3) (partM (constM (.int 1))) noPart)) nilA)) (tupM (consA (constM (.int 0)) (consA (constM (.str "houses")) nilA))))) (retM (constM (.bl false))) nextM)
  (seqM (ifM (testM (binM neF (c_l_refusal (consA (lstM (consA (constM (.str "cash 0 123456789")) nilA)) nilA)) (tupM (consA (constM (.int 1)) (consA (constM (.str "cash")) nilA))))) (retM (constM (.bl false))) nextM)
  (seqM (ifM (testM (binM neF (c_l_refusal (consA (lstM (consA (constM (.str "cash 0 0")) (consA (constM (.str "0 owes 1 100000000 at 1")) nilA))) nilA)) (tupM (consA (constM (.int 0)) (consA (constM (.str "amount")) nilA))))) (retM (constM (.bl false))) nextM)
  (retM (binM eqF (c_l_refusal (consA (lstM (consA (constM (.str "cash 5 1000")) (consA (constM (.str "0 owes 0 0 at 0")) nilA))) nilA)) (tupM (consA (constM (.int 1)) (consA (constM (.str "cash")) nilA))))))))))
def m_law_u12 (C : Cn Rng) : SM C :=
  (seqM (asgM (.nm 8) (callM lenF (consA (binM ixF (nameM 2) (constM (.int 0))) nilA)))
  (seqM (asgM (.nm 9) (binM subF (callM lenF (consA (nameM 3) nilA)) (constM (.int 1))))
  (seqM (ownM 10 (lstM (consA (tupM (consA (constM (.str "0 owes 0 5 at 1")) (consA (constM (.str "house")) nilA))) (consA (tupM (consA (binM addF (binM addF (constM (.str "0 owes ")) (callM strCF (consA (nameM 8) nilA))) (constM (.str " 5 at 1"))) (consA (constM (.str "house")) nilA))) nilA))))
  (seqM (appM 10 (tupM (consA (constM (.str "9 owes 0 5 at 1")) (consA (constM (.str "house")) nilA))))
  (seqM (ifM (testM (binM gtF (nameM 8) (constM (.int 1)))) (seqM (ownM 10 (binM addF (nameM 10) (lstM (consA (tupM (consA (constM (.str "0 owes 1 0 at 1")) (consA (constM (.str "amount")) nilA))) (consA (tupM (consA (constM (.str "0 owes 1 1000 at 1")) (consA (constM (.str "amount")) nilA))) nilA)))))
  (ownM 10 (binM addF (nameM 10) (lstM (consA (tupM (consA (constM (.str "0 owes 1 5 at 0")) (consA (constM (.str "rank")) nilA))) (consA (tupM (consA (constM (.str "0 owes 1 5 at 10")) (consA (constM (.str "rank")) nilA))) nilA)))))) nextM)
  (m_law_t1 C))))))
def m_law_u5 (C : Cn Rng) : SM C :=
  (seqM (ownM 5 (lstM (consA (constM (.str "")) (consA (constM (.str " ")) (consA (constM (.str "0 owes 1 5 at")) (consA (constM (.str "0 owes 1 5 at 1 ")) (consA (constM (.str " 0 owes 1 5 at 1")) (consA (constM (.str "0 owes 1 5 at 01")) (consA (constM (.str "0 owes 1 5 at x")) nilA)))))))))
  (seqM (ownM 5 (binM addF (nameM 5) (lstM (consA (constM (.str "0 owes 1 5")) (consA (constM (.str "0 owe 1 5 at 1")) (consA (constM (.str "0 owes 1 5 on 1")) (consA (constM (.str "0  owes 1 5 at 1")) (consA (constM (.str "cash 1")) (consA (constM (.str "0 owes 1 -5 at 1")) nilA)))))))))
  (seqM (ownM 5 (binM addF (nameM 5) (lstM (consA (constM (.str "0 owes 1 5 at 1 1")) (consA (constM (.str "owes 0 1 5 at 1")) (consA (constM (.str "0 owes 1 1234567890 at 1")) (consA (constM (.str "a owes 1 5 at 1")) nilA)))))))
  (seqM (appM 5 (constM (.str "0 owes 1 05 at 1")))
  (seqM (asgM (.nm 6) (binM addF (constM (.int 1)) (c_l_next (consA (nameM 1) (consA (callM lenF (consA (nameM 3) nilA)) nilA)))))
  (seqM (asgM (.nm 7) (binM addF (slM (nameM 3) (partM (nameM 6)) noPart) (binM mulF (lstM (consA (constM (.str "nothing")) nilA)) (c_l_next (consA (nameM 1) (consA (constM (.int 2)) nilA))))))
  (seqM (ifM (testM (binM neF (c_l_refusal (consA (binM addF (binM addF (slM (nameM 3) noPart (partM (nameM 6))) (lstM (consA (binM ixF (nameM 5) (c_l_next (consA (nameM 1) (consA (callM lenF (consA (nameM 5) nilA)) nilA)))) nilA))) (nameM 7)) nilA)) (nameM 6))) (retM (constM (.bl false))) nextM)
  (m_law_u12 C))))))))
def m_law (C : Cn Rng) : SM C :=
  (seqM (asgM (.nm 2) (c_l_book (consA (nameM 1) (consA (constM (.int 8)) (consA (constM (.int 22)) (consA (constM (.int 999)) nilA))))))
  (seqM (asgM (.nm 3) (splitM (c_written (consA (nameM 2) nilA)) (constM (.str "\n"))))
  (seqM (asgM (.nm 4) (lstM (consA (constM (.str "")) (consA (constM (.str "cash")) (consA (constM (.str "cash ")) (consA (constM (.str "cash 01")) (consA (constM (.str "cash 1  2")) (consA (constM (.str "cash 1 ")) (consA (constM (.str "Cash 1")) (consA (constM (.str "cash x")) (consA (constM (.str "cash -1")) nilA)))))))))))
  (seqM (asgM (.nm 4) (binM addF (nameM 4) (lstM (consA (constM (.str "1")) (consA (constM (.str "cash 1234567890")) nilA)))))
  (seqM (ifM (testM (binM neF (c_l_refusal (consA (binM addF (lstM (consA (binM ixF (nameM 4) (c_l_next (consA (nameM 1) (consA (constM (.int 11)) nilA)))) nilA)) (slM (nameM 3) (partM (constM (.int 1))) noPart)) nilA)) (constM (.int 0)))) (retM (constM (.bl false))) nextM)
  (m_law_u5 C))))))

def whyOk (z : Cl × Str) : Prop := SmC z.1 ∧ PyData.strOk z.2 = true
theorem k_ok : PyData.strOk "houses" = true ∧ PyData.strOk "cash" = true ∧ PyData.strOk "amount" = true ∧ PyData.strOk "house" = true ∧ PyData.strOk "rank" = true := by decide +kernel
theorem sm0 : ∀ x ∈ ([⟨0, 1, 100000000, 1⟩, ⟨0, 0, 0, 0⟩] : List Cl), SmC x := fun x hx => by
  simp only [List.mem_cons, List.not_mem_nil, or_false] at hx
  rcases hx with rfl | rfl <;> exact ⟨⟨by decide, by decide⟩, ⟨by decide, by decide⟩, ⟨by decide, by decide⟩, ⟨by decide, by decide⟩⟩
theorem nine_zero : ("cash" : Str) ++ Txt.mul " 0" 9 = cashS ⟨List.replicate 9 0, []⟩ := by decide +kernel
theorem lit1 : ("cash 0 123456789" : Str) = cashS ⟨[0, 123456789], []⟩ := by decide +kernel
theorem lit2 : ("cash 0 0" : Str) = cashS ⟨[0, 0], []⟩ := by decide +kernel
theorem lit3 : ("0 owes 1 100000000 at 1" : Str) = rowS ⟨0, 1, 100000000, 1⟩ := by decide +kernel
theorem lit4 : ("cash 5 1000" : Str) = cashS ⟨[5, 1000], []⟩ := by decide +kernel
theorem lit5 : ("0 owes 0 0 at 0" : Str) = rowS ⟨0, 0, 0, 0⟩ := by decide +kernel
theorem smZ {cs : List Int} (h1 : 1 ≤ cs.length) (h2 : cs.length ≤ 10) (h : (cs.all fun x => decide (0 ≤ x ∧ x < 1000000000)) = true) : SmL cs := ⟨h1, h2, fun x hx => of_decide_eq_true (List.all_eq_true.mp h x hx)⟩
theorem nb_cash1 {x y : Int} {cl : List Cl} (h0 : CsOk x) (h1 : ¬ CsOk y) : Nb ⟨[x, y], cl⟩ 1 "cash" := .inr ⟨⟨by show 1 ≤ 2; decide, by show 2 ≤ 8; decide⟩, .inl ⟨1, by show 1 < 2; decide, fun j hj => by
  have : j = 0 := by omega
  subst this; exact h0, h1, rfl, rfl⟩⟩
theorem nb_am : Nb ⟨[0, 0], [⟨0, 1, 100000000, 1⟩]⟩ 0 "amount" := .inr ⟨⟨by show 1 ≤ 2; decide, by show 2 ≤ 8; decide⟩, .inr ⟨fun j hj => by
  have hj : j < 2 := hj
  have : j = 0 ∨ j = 1 := by omega
  rcases this with rfl | rfl <;> exact ⟨by decide, by decide⟩, .inr ⟨by show 1 ≤ 24; decide, 0, by show 0 < 1; decide, fun j hj => by omega, .inr (.inl ⟨⟨by show (0 : Int) ≤ 0; decide, by show (0 : Int) < 2; decide, by show (0 : Int) ≤ 1; decide, by show (1 : Int) < 2; decide, by show (0 : Int) ≠ 1; decide⟩, by show ¬ (1 ≤ (100000000 : Int) ∧ (100000000 : Int) ≤ 999); decide, rfl⟩), rfl⟩⟩⟩
theorem cat_strs {m1 m2 : Md} {xs ys : List Str} {K : Md → D → Prop} (hl : xs.length + ys.length ≤ 1000000) (h : K .F (.lst ((xs ++ ys).map D.str))) : addF (m1, .lst (xs.map D.str)) (m2, .lst (ys.map D.str)) K := by
  refine ⟨by rw [List.length_map, List.length_map]; exact hl, ?_⟩
  rw [← List.map_append, nmL_strs]; exact h
set_option maxHeartbeats 8000000 in
theorem t_law16 {C : Cn Rng} {b : Bk} (hb : BkOk b) (hm : b.m ≤ 22) {L : List (Cl × Str)} (h0 : 0 < L.length) (h10 : L.length ≤ 10) (hL : ∀ z ∈ L, whyOk z ∧ ClBad b.n z.1 z.2) {s4 s5 s6 s7 s8 : Sl} (w : Rng) :
    m_law_t1 C ⟨fun _ _ => False, fun d _ => d = .bl true, fun _ _ => False, fun _ _ => False⟩ [.no, .val true (.ref C.hdl), .val true (bkD b), .val true (.lst ((cashS b :: b.cl.map rowS).map D.str)), s4, s5, s6, s7, s8, .val true (.int (b.m : Int)), .own (.lst (L.map rwD)), .no, .no] w := by
  have hs := smB hb
  have hcs := smL_of hb
  have hlc : b.cl.length = b.m := rfl
  have nn := hb.n8
  have eqt : ∀ (a : Int) (why : Str) (K : Bool → Prop), PyData.strOk why = true → K false → ∃ k, D.bl (!(D.tup [.int a, .str why]).eqv (.tup [.int a, .str why])) = .bl k ∧ K k := fun a why K hw hk => ⟨_, rfl, by rw [eqv_self16 (cmp_iw hw).1]; exact hk⟩
  obtain ⟨k1, k2, k3, k4, k5⟩ := k_ok
  refine ⟨_, _, rfl, rfl, rfl, draw (by rw [List.length_map]; omega) (by rw [List.length_map]; omega) fun v r v0 v1 => ?_⟩
  rw [List.length_map] at v1
  have hvl : v.toNat < L.length := by omega
  obtain ⟨z, hz⟩ : ∃ z, L[v.toNat]? = some z := ⟨_, List.getElem?_eq_getElem hvl⟩
  obtain ⟨⟨z1, z2⟩, z3⟩ := hL z (List.mem_of_getElem? hz)
  have ez : atI (L.map rwD) v = some (rwD z) := by
    unfold atI
    rw [List.length_map, ixN_ok v0 v1]
    show (L.map rwD)[v.toNat]? = _
    rw [List.getElem?_map, hz]; rfl
  refine ⟨_, ez, rfl, asg_tp2 rfl rfl ?_⟩
  obtain ⟨x, why⟩ := z
  have z1 : SmC x := z1
  have z2 : PyData.strOk why = true := z2
  have z3 : ClBad b.n x why := z3
  -- a row more
  refine ⟨(by show 1 ≤ 1000; decide), rfl, ?_⟩
  refine cat_strs (ys := [rowS x]) (by simp; omega) ?_
  have hx' : ∀ y ∈ b.cl ++ [x], SmC y := fun y hy => (List.mem_append.mp hy).elim (hs.cl y) fun q => by rw [List.mem_singleton.mp q]; exact z1
  have er : (cashS b :: b.cl.map rowS) ++ [rowS x] = cashS ⟨b.cash, []⟩ :: ((b.cl ++ [x]).map rowS ++ []) := by rw [List.append_nil, List.map_append]; rfl
  rw [er]
  refine ⟨rfl, rfl, _, _, rfl, rowsOk (headS_ok hcs) hx' (fun s q => by cases q) (by simp; omega), .inr ⟨b.cash, rfl, hcs, b.cl ++ [x], [], rfl, hx', .inr ⟨rfl, _, _, nb_row hb hm z3, ?_⟩⟩⟩
  refine ⟨(by show 2 ≤ 1000; decide), rfl, cmp_iw z2, cmp_iw z2, eqt _ _ _ z2 (iteFx rfl ?_)⟩
  -- nine houses
  have e1 : cutD ((cashS b :: b.cl.map rowS).map D.str) (some 1) none = (b.cl.map rowS).map D.str := by rw [cut_hi (by decide) (by simp; omega)]; rfl
  have ln : ("cash" : Str).length ≤ 100 ∧ (Txt.mul " 0" 9).length ≤ 100 ∧ (" 0" : Str).length ≤ 16 := by decide +kernel
  refine ⟨_, _, rfl, rfl, ln.2.2, by decide, by decide, by have := ln.1; have := ln.2.1; omega, (by show 1 ≤ 1000; decide), rfl, _, rfl, ?_⟩
  unfold noPart
  dsimp only [slD]
  rw [e1]
  refine cat_strs (xs := [("cash" : Str) ++ Txt.mul " 0" 9]) (by simp; omega) ?_
  have er : [("cash" : Str) ++ Txt.mul " 0" 9] ++ b.cl.map rowS = cashS ⟨List.replicate 9 0, []⟩ :: (b.cl.map rowS ++ []) := by rw [nine_zero, List.append_nil]; rfl
  rw [er]
  have s9 : SmL (List.replicate 9 0) := smZ (by decide) (by decide) (by decide)
  refine ⟨rfl, rfl, _, _, rfl, rowsOk (headS_ok s9) hs.cl (fun s q => by cases q) (by simp; omega), .inr ⟨_, rfl, s9, b.cl, [], rfl, hs.cl, .inr ⟨rfl, 0, "houses", .inl ⟨fun q => absurd q.2 (by show ¬ 9 ≤ 8; decide), rfl, rfl⟩, ?_⟩⟩⟩
  refine ⟨(by show 2 ≤ 1000; decide), rfl, cmp_iw k1, cmp_iw k1, eqt _ _ _ k1 (iteFx rfl ?_)⟩
  -- too many coins
  have s2 : SmL [0, 123456789] := smZ (by decide) (by decide) (by decide)
  refine ⟨(by show 1 ≤ 1000; decide), rfl, rfl, rfl, cashS ⟨[0, 123456789], []⟩, [], by rw [lit1]; rfl, rowsOk (xs := []) (tl := []) (headS_ok s2) (fun x q => by cases q) (fun s q => by cases q) (by decide), .inr ⟨_, rfl, s2, [], [], rfl, (fun x q => by cases q), .inr ⟨rfl, 1, "cash", nb_cash1 ⟨by decide, by decide⟩ (fun q => absurd q.2 (by decide)), ?_⟩⟩⟩
  refine ⟨(by show 2 ≤ 1000; decide), rfl, cmp_iw k2, cmp_iw k2, eqt _ _ _ k2 (iteFx rfl ?_)⟩
  -- too great an amount
  have s3 : SmL [0, 0] := smZ (by decide) (by decide) (by decide)
  have c3 : ∀ x ∈ ([⟨0, 1, 100000000, 1⟩] : List Cl), SmC x := fun x q => sm0 x (by rw [List.mem_singleton.mp q]; exact List.mem_cons_self ..)
  refine ⟨(by show 2 ≤ 1000; decide), rfl, rfl, rfl, cashS ⟨[0, 0], []⟩, [rowS ⟨0, 1, 100000000, 1⟩], by rw [lit2, lit3]; rfl, rowsOk (xs := [⟨0, 1, 100000000, 1⟩]) (tl := []) (headS_ok s3) c3 (fun s q => by cases q) (by decide), .inr ⟨_, rfl, s3, [⟨0, 1, 100000000, 1⟩], [], rfl, c3, .inr ⟨rfl, 0, "amount", nb_am, ?_⟩⟩⟩
  refine ⟨(by show 2 ≤ 1000; decide), rfl, cmp_iw k3, cmp_iw k3, eqt _ _ _ k3 (iteFx rfl ?_)⟩
  -- coins ahead of a claim
  have s4' : SmL [5, 1000] := smZ (by decide) (by decide) (by decide)
  have c4 : ∀ x ∈ ([⟨0, 0, 0, 0⟩] : List Cl), SmC x := fun x q => sm0 x (by rw [List.mem_singleton.mp q]; simp)
  refine ⟨(by show 2 ≤ 1000; decide), rfl, rfl, rfl, cashS ⟨[5, 1000], []⟩, [rowS ⟨0, 0, 0, 0⟩], by rw [lit4, lit5]; rfl, rowsOk (xs := [⟨0, 0, 0, 0⟩]) (tl := []) (headS_ok s4') c4 (fun s q => by cases q) (by decide), .inr ⟨_, rfl, s4', [⟨0, 0, 0, 0⟩], [], rfl, c4, .inr ⟨rfl, 1, "cash", nb_cash1 ⟨by decide, by decide⟩ (fun q => absurd q.2 (by decide)), ?_⟩⟩⟩
  refine ⟨(by show 2 ≤ 1000; decide), rfl, cmp_iw k2, cmp_iw k2, rfl, rfl, ?_⟩
  show D.bl ((D.tup [.int 1, .str "cash"]).eqv (.tup [.int 1, .str "cash"])) = .bl true
  rw [eqv_self16 (cmp_iw k2).1]
def noneL (n : Nat) : List (Cl × Str) := [(⟨0, 0, 5, 1⟩, "house"), (⟨0, n, 5, 1⟩, "house"), (⟨9, 0, 5, 1⟩, "house")]
def moreL : List (Cl × Str) := [(⟨0, 1, 0, 1⟩, "amount"), (⟨0, 1, 1000, 1⟩, "amount"), (⟨0, 1, 5, 0⟩, "rank"), (⟨0, 1, 5, 10⟩, "rank")]
theorem lits : ("0 owes 0 5 at 1" : Str) = rowS ⟨0, 0, 5, 1⟩ ∧ ("9 owes 0 5 at 1" : Str) = rowS ⟨9, 0, 5, 1⟩ ∧ ("0 owes 1 0 at 1" : Str) = rowS ⟨0, 1, 0, 1⟩ ∧ ("0 owes 1 1000 at 1" : Str) = rowS ⟨0, 1, 1000, 1⟩ ∧ ("0 owes 1 5 at 0" : Str) = rowS ⟨0, 1, 5, 0⟩ ∧ ("0 owes 1 5 at 10" : Str) = rowS ⟨0, 1, 5, 10⟩ := by decide +kernel
theorem none_ok {n : Nat} (n1 : 1 ≤ n) (n8 : n ≤ 8) : ∀ z ∈ noneL n, whyOk z ∧ ClBad n z.1 z.2 := fun z hz => by
  obtain ⟨k1, k2, k3, k4, k5⟩ := k_ok
  unfold noneL at hz
  simp only [List.mem_cons, List.not_mem_nil, or_false] at hz
  rcases hz with rfl | rfl | rfl
  · exact ⟨⟨⟨⟨by decide, by decide⟩, ⟨by decide, by decide⟩, ⟨by decide, by decide⟩, ⟨by decide, by decide⟩⟩, k4⟩, .inl ⟨fun h => h.2.2.2.2 rfl, rfl⟩⟩
  · exact ⟨⟨⟨⟨by show (0 : Int) ≤ 0; decide, by show (0 : Int) < 1000000000; decide⟩, ⟨by show (0 : Int) ≤ (n : Int); omega, by show (n : Int) < _; omega⟩, ⟨by show (0 : Int) ≤ 5; decide, by show (5 : Int) < 1000000000; decide⟩, ⟨by show (0 : Int) ≤ 1; decide, by show (1 : Int) < 1000000000; decide⟩⟩, k4⟩, .inl ⟨fun h => absurd h.2.2.2.1 (by show ¬ (n : Int) < n; omega), rfl⟩⟩
  · exact ⟨⟨⟨⟨by decide, by decide⟩, ⟨by decide, by decide⟩, ⟨by decide, by decide⟩, ⟨by decide, by decide⟩⟩, k4⟩, .inl ⟨fun h => absurd h.2.1 (by show ¬ (9 : Int) < n; omega), rfl⟩⟩
theorem more_ok {n : Nat} (n1 : 1 < n) : ∀ z ∈ moreL, whyOk z ∧ ClBad n z.1 z.2 := fun z hz => by
  obtain ⟨k1, k2, k3, k4, k5⟩ := k_ok
  unfold moreL at hz
  have hs : ∀ a r : Int, HsOk n ⟨0, 1, a, r⟩ := fun a r => ⟨by show (0 : Int) ≤ 0; decide, by show (0 : Int) < n; omega, by show (0 : Int) ≤ 1; decide, by show (1 : Int) < n; omega, by show (0 : Int) ≠ 1; decide⟩
  simp only [List.mem_cons, List.not_mem_nil, or_false] at hz
  rcases hz with rfl | rfl | rfl | rfl
  · exact ⟨⟨⟨⟨by decide, by decide⟩, ⟨by decide, by decide⟩, ⟨by decide, by decide⟩, ⟨by decide, by decide⟩⟩, k3⟩, .inr (.inl ⟨hs _ _, by show ¬ (1 ≤ (0 : Int) ∧ (0 : Int) ≤ 999); decide, rfl⟩)⟩
  · exact ⟨⟨⟨⟨by decide, by decide⟩, ⟨by decide, by decide⟩, ⟨by decide, by decide⟩, ⟨by decide, by decide⟩⟩, k3⟩, .inr (.inl ⟨hs _ _, by show ¬ (1 ≤ (1000 : Int) ∧ (1000 : Int) ≤ 999); decide, rfl⟩)⟩
  · exact ⟨⟨⟨⟨by decide, by decide⟩, ⟨by decide, by decide⟩, ⟨by decide, by decide⟩, ⟨by decide, by decide⟩⟩, k5⟩, .inr (.inr ⟨hs _ _, by show 1 ≤ (5 : Int) ∧ (5 : Int) ≤ 999; decide, by show ¬ (1 ≤ (0 : Int) ∧ (0 : Int) ≤ 9); decide, rfl⟩)⟩
  · exact ⟨⟨⟨⟨by decide, by decide⟩, ⟨by decide, by decide⟩, ⟨by decide, by decide⟩, ⟨by decide, by decide⟩⟩, k5⟩, .inr (.inr ⟨hs _ _, by show 1 ≤ (5 : Int) ∧ (5 : Int) ≤ 999; decide, by show ¬ (1 ≤ (10 : Int) ∧ (10 : Int) ≤ 9); decide, rfl⟩)⟩
theorem cat_rw {m1 m2 : Md} {xs ys : List (Cl × Str)} {K : Md → D → Prop} (hl : xs.length + ys.length ≤ 1000000) (h : K .F (.lst ((xs ++ ys).map rwD))) : addF (m1, .lst (xs.map rwD)) (m2, .lst (ys.map rwD)) K := by
  refine ⟨by rw [List.length_map, List.length_map]; exact hl, ?_⟩
  rw [← List.map_append, nmL_rw]; exact h
theorem rep_strs (s : Str) (n : Nat) : (List.replicate n [D.str s]).flatten = (List.replicate n s).map D.str := by
  induction n with
  | zero => rfl
  | succ n ih => rw [List.replicate_succ, List.flatten_cons, ih]; rfl
set_option maxHeartbeats 8000000 in
theorem r_u12 {C : Cn Rng} {b : Bk} (hb : BkOk b) (hm : b.m ≤ 22) {s4 s5 s6 s7 : Sl} (w : Rng) : m_law_u12 C ⟨fun _ _ => False, fun d _ => d = .bl true, fun _ _ => False, fun _ _ => False⟩ [.no, .val true (.ref C.hdl), .val true (bkD b), .val true (.lst ((cashS b :: b.cl.map rowS).map D.str)), s4, s5, s6, s7, .no, .no, .no, .no, .no] w := by
  have hs := smB hb
  have hcs := smL_of hb
  have hlc : b.cl.length = b.m := rfl
  have n1 := hb.n1
  have n8 := hb.n8
  have lr : (cashS b :: b.cl.map rowS).length = b.m + 1 := by rw [List.length_cons, List.length_map, hlc]
  -- rows that are good, but no book
  have ln : (b.cash.map D.int).length = b.n := List.length_map _
  refine ⟨_, rfl, rfl, asg_flat rfl ?_⟩
  rw [ln]
  refine ⟨rfl, asg_flat rfl ?_⟩
  dsimp only
  rw [List.length_map, lr, show ((b.m + 1 : Nat) : Int) - 1 = (b.m : Int) by omega]
  obtain ⟨l1, l2, l3, l4, l5, l6⟩ := lits
  have hnl : (nS (b.n : Int)).length ≤ 9 := (num_len (n := (b.n : Int)) (by omega) (by omega)).2
  have lk : ("0 owes " : Str).length ≤ 10 ∧ (" 5 at 1" : Str).length ≤ 10 := by decide +kernel
  obtain ⟨lk1, lk2⟩ := lk
  refine ⟨(by show 2 ≤ 1000; decide), rfl, abs_ok (n := (b.n : Int)) (by omega) (by omega), ?_, ?_, (by show 2 ≤ 1000; decide), rfl, (by show 2 ≤ 1000; decide), rfl, rfl, rfl, ?_⟩
  · show ("0 owes " : Str).length + (nS (b.n : Int)).length ≤ 1000000
    omega
  · show (("0 owes " : Str) ++ nS (b.n : Int)).length + (" 5 at 1" : Str).length ≤ 1000000
    rw [len_app]; omega
  refine ⟨_, rfl, by show 2 < 1000000; decide, (by show 2 ≤ 1000; decide), rfl, rfl, rfl, ?_⟩
  have eN : [D.tup [.str "0 owes 0 5 at 1", .str "house"], .tup [.str (("0 owes " : Str) ++ nS (b.n : Int) ++ " 5 at 1"), .str "house"]] ++ [.tup [.str "9 owes 0 5 at 1", .str "house"]] = (noneL b.n).map rwD := by
    rw [str_row b.n n8, l1, l2]; rfl
  have key : ∀ (L : List (Cl × Str)) (w : Rng), L.length ≤ 10 → 0 < L.length → (∀ z ∈ L, whyOk z ∧ ClBad b.n z.1 z.2) → ∀ s4 s5 s6 s7 : Sl, m_law_t1 C ⟨fun _ _ => False, fun d _ => d = .bl true, fun _ _ => False, fun _ _ => False⟩ [.no, .val true (.ref C.hdl), .val true (bkD b), .val true (.lst ((cashS b :: b.cl.map rowS).map D.str)), s4, s5, s6, s7, .val true (.int (b.n : Int)), .val true (.int (b.m : Int)), .own (.lst (L.map rwD)), .no, .no] w := fun L w h1 h2 h3 s4 s5 s6 s7 => t_law16 hb hm h2 h1 h3 w
  refine ⟨_, rfl, ?_⟩
  by_cases q : (b.n : Int) > 1
  · refine iteP q ?_
    refine ⟨(by show 2 ≤ 1000; decide), rfl, (by show 2 ≤ 1000; decide), rfl, (by show 2 ≤ 1000; decide), rfl, by show 3 + 2 ≤ 1000000; decide, rfl, rfl, ?_⟩
    refine ⟨(by show 2 ≤ 1000; decide), rfl, (by show 2 ≤ 1000; decide), rfl, (by show 2 ≤ 1000; decide), rfl, by show 5 + 2 ≤ 1000000; decide, rfl, rfl, ?_⟩
    have := key (noneL b.n ++ moreL) w (by show 7 ≤ 10; decide) (by show 0 < 7; decide) (fun z hz => (List.mem_append.mp hz).elim (none_ok n1 n8 z) (more_ok (by omega) z))
    have eM : moreL.map rwD = [D.tup [.str "0 owes 1 0 at 1", .str "amount"], .tup [.str "0 owes 1 1000 at 1", .str "amount"], .tup [.str "0 owes 1 5 at 0", .str "rank"], .tup [.str "0 owes 1 5 at 10", .str "rank"]] := by rw [l3, l4, l5, l6]; rfl
    rw [List.map_append, eM, ← eN] at this
    exact this _ _ _ _
  · refine iteN q ?_
    have := key (noneL b.n) w (by show 3 ≤ 10; decide) (by show 0 < 3; decide) (none_ok n1 n8)
    rw [← eN] at this
    exact this _ _ _ _
set_option maxHeartbeats 8000000 in
theorem r_u5 {C : Cn Rng} {b : Bk} (hb : BkOk b) (hm : b.m ≤ 22) {s4 : Sl} (w : Rng) : m_law_u5 C ⟨fun _ _ => False, fun d _ => d = .bl true, fun _ _ => False, fun _ _ => False⟩ [.no, .val true (.ref C.hdl), .val true (bkD b), .val true (.lst ((cashS b :: b.cl.map rowS).map D.str)), s4, .no, .no, .no, .no, .no, .no, .no, .no] w := by
  have hs := smB hb
  have hcs := smL_of hb
  have hlc : b.cl.length = b.m := rfl
  have n1 := hb.n1
  have n8 := hb.n8
  have lr : (cashS b :: b.cl.map rowS).length = b.m + 1 := by rw [List.length_cons, List.length_map, hlc]
  -- a bad row
  refine ⟨(by show 7 ≤ 1000; decide), rfl, rfl, rfl, ?_⟩
  refine ⟨(by show 6 ≤ 1000; decide), rfl, by show 7 + 6 ≤ 1000000; decide, rfl, rfl, ?_⟩
  refine ⟨(by show 4 ≤ 1000; decide), rfl, by show 13 + 4 ≤ 1000000; decide, rfl, rfl, ?_⟩
  refine ⟨_, rfl, by show 17 < 1000000; decide, rfl, rfl, ?_⟩
  refine ⟨_, _, rfl, rfl, rfl, draw (by rw [List.length_map, lr]; omega) (by rw [List.length_map, lr]; omega) fun v3 r3 v30 v31 => ⟨rfl, asg_flat rfl ?_⟩⟩
  rw [List.length_map, lr] at v31
  have c1 : cutD ((cashS b :: b.cl.map rowS).map D.str) (some (1 + v3)) none = ((cashS b :: b.cl.map rowS).drop (1 + v3).toNat).map D.str := by rw [cut_hi (by omega) (by rw [List.length_map, lr]; omega), List.map_drop]
  have c2 : cutD ((cashS b :: b.cl.map rowS).map D.str) none (some (1 + v3)) = ((cashS b :: b.cl.map rowS).take (1 + v3).toNat).map D.str := by rw [cut_lo (by omega) (by rw [List.length_map, lr]; omega), List.map_take]
  refine ⟨_, rfl, ?_⟩
  unfold noPart
  dsimp only [slD]
  rw [c1]
  refine ⟨(by show 1 ≤ 1000; decide), rfl, _, _, rfl, rfl, rfl, draw (by decide) (by decide) fun v4 r4 v40 v41 => ⟨by omega, by omega, by show 1 * v4.toNat ≤ 1000000; omega, ?_⟩⟩
  have er4 : (List.replicate v4.toNat (List.map (fun x : Md × D => x.2) [(Md.F, D.str "nothing")])).flatten = (List.replicate v4.toNat ("nothing" : Str)).map D.str := rep_strs _ _
  rw [er4]
  have hd1 : ((cashS b :: b.cl.map rowS).drop (1 + v3).toNat).length ≤ 23 := by rw [List.length_drop, lr]; omega
  refine cat_strs (by rw [List.length_replicate]; omega) ⟨rfl, asg_fx rfl ?_⟩
  generalize hmo : (cashS b :: b.cl.map rowS).drop (1 + v3).toNat ++ List.replicate v4.toNat ("nothing" : Str) = moreS
  have hml : moreS.length ≤ 25 := by rw [← hmo, List.length_append, List.length_replicate]; omega
  have hmok : ∀ s ∈ moreS, s.length ≤ 1000 ∧ 10 ∉ TL.tl s := fun s h => by
    rw [← hmo] at h
    rcases List.mem_append.mp h with h | h
    · rcases List.mem_cons.mp (List.mem_of_mem_drop h) with rfl | h
      · exact headS_ok hcs
      · obtain ⟨x, hx, rfl⟩ := List.mem_map.mp h
        exact rowS_ok (hs.cl x hx)
    · rw [(List.mem_replicate.mp h).2]; exact okR_of nothing_ok
  refine ⟨_, rfl, ?_⟩
  dsimp only [slD]
  rw [c2]
  refine ⟨_, _, rfl, rfl, rfl, draw (by decide) (by decide) fun v5 r5 v50 v51 => ⟨.str (oddL.getD v5.toNat ""), ix_str (l := oddL) v50 (strs_get (by show v5.toNat < 18; have : v5 < 18 := v51; omega)), (by show 1 ≤ 1000; decide), rfl, ?_⟩⟩
  have v51 : v5 < 18 := v51
  have ho : oddL.getD v5.toNat "" ∈ oddL := by
    rw [List.getD_eq_getElem?_getD, List.getElem?_eq_getElem (by show v5.toNat < 18; omega)]; exact List.getElem_mem _
  have hbad2 := List.all_eq_true.mp odd_bad _ ho
  obtain ⟨p1, p2⟩ := Bool.and_eq_true_iff.mp hbad2
  obtain ⟨p2, p3⟩ := Bool.and_eq_true_iff.mp p2
  generalize oddL.getD v5.toNat "" = bad at p1 p2 p3 ⊢
  have htk : (cashS b :: b.cl.map rowS).take (1 + v3).toNat = cashS b :: (b.cl.take v3.toNat).map rowS := by
    rw [show (1 + v3).toNat = v3.toNat + 1 by omega, List.take_succ_cons, List.map_take]
  rw [htk]
  refine cat_strs (ys := [bad]) (by simp; omega) ?_
  refine nameM_val (fr := true) (d := .lst (moreS.map D.str)) rfl (fun _ _ z => by cases z) ?_
  refine cat_strs (xs := cashS b :: (b.cl.take v3.toNat).map rowS ++ [bad]) (ys := moreS) (by simp only [List.length_append, List.length_cons, List.length_map, List.length_take, List.length_nil]; omega) ?_
  have er : (cashS b :: (b.cl.take v3.toNat).map rowS ++ [bad]) ++ moreS = cashS ⟨b.cash, []⟩ :: ((b.cl.take v3.toNat).map rowS ++ bad :: moreS) := by simp; rfl
  rw [er]
  have hxs : ∀ x ∈ b.cl.take v3.toNat, SmC x := fun x hx => hs.cl x (List.mem_of_mem_take hx)
  have hxl : (b.cl.take v3.toNat).length = v3.toNat := by rw [List.length_take]; omega
  refine ⟨rfl, rfl, _, _, rfl, rowsOk (headS_ok hcs) hxs (fun s q => ?_) (by rw [hxl, List.length_cons]; omega), .inr ⟨b.cash, rfl, hcs, b.cl.take v3.toNat, bad :: moreS, rfl, hxs, .inl ⟨bad, moreS, rfl, p1, p2, ?_⟩⟩⟩
  · rcases List.mem_cons.mp q with rfl | q
    · exact okR_of p3
    · exact hmok s q
  refine ⟨cmp_int _, cmp_int _, _, rfl, iteFx (by rw [eqv_int, decide_eq_true (by rw [hxl]; omega)]; rfl) ?_⟩
  exact r_u12 hb hm _
set_option maxHeartbeats 8000000 in
theorem r_law (C : Cn Rng) (ns : List Int) (hns : ns.length ≤ 63) : m_law C ⟨fun _ _ => False, fun d _ => d = .bl true, fun _ _ => False, fun _ _ => False⟩ (lawG 13 C.hdl) ⟨71, ns, 0⟩ := by
  refine ⟨_, _, rfl, rfl, rfl, 8, 22, 999, rfl, by decide, by decide, by decide, by decide, by decide, by decide, fun b r1 hb _ hm _ _ => ⟨rfl, asg_flat (flat_bk b) ?_⟩⟩
  have hm : b.m ≤ 22 := by omega
  have hs := smB hb
  have hcs := smL_of hb
  have hlc : b.cl.length = b.m := rfl
  have n1 := hb.n1
  have n8 := hb.n8
  have tl_ := text_len hs
  refine ⟨rfl, rfl, b, rfl, hb, _, rfl, _, rfl, by decide +kernel, by omega, ?_⟩
  rw [text_split hs]
  refine ⟨rfl, asg_fx rfl ?_⟩
  have lr : (cashS b :: b.cl.map rowS).length = b.m + 1 := by rw [List.length_cons, List.length_map, hlc]
  -- a bad head
  refine ⟨(by show 9 ≤ 1000; decide), rfl, rfl, asg_fx rfl ?_⟩
  refine ⟨(by show 2 ≤ 1000; decide), rfl, by show 9 + 2 ≤ 1000000; decide, rfl, asg_fx rfl ?_⟩
  refine ⟨_, _, rfl, rfl, rfl, draw (by decide) (by decide) fun v r2 v0 v1 => ⟨.str (headsL.getD v.toNat ""), ix_str (l := headsL) v0 (strs_get (by show v.toNat < 11; omega)), (by show 1 ≤ 1000; decide), rfl, _, rfl, ?_⟩⟩
  have hv : headsL.getD v.toNat "" ∈ headsL := by
    rw [List.getD_eq_getElem?_getD, List.getElem?_eq_getElem (by show v.toNat < 11; omega)]; exact List.getElem_mem _
  have hbad := List.all_eq_true.mp heads_bad _ hv
  obtain ⟨q1, q2⟩ := Bool.and_eq_true_iff.mp hbad
  obtain ⟨q2, q3⟩ := Bool.and_eq_true_iff.mp q2
  have e1 : cutD ((cashS b :: b.cl.map rowS).map D.str) (some 1) none = (b.cl.map rowS).map D.str := by rw [cut_hi (by decide) (by simp; omega)]; rfl
  unfold noPart
  dsimp only [slD]
  rw [e1]
  refine cat_strs (xs := [headsL.getD v.toNat ""]) (by simp; omega) ?_
  have er : [headsL.getD v.toNat ""] ++ b.cl.map rowS = headsL.getD v.toNat "" :: (b.cl.map rowS ++ []) := by rw [List.append_nil]; rfl
  rw [er]
  refine ⟨rfl, rfl, _, _, rfl, rowsOk (okR_of q3) hs.cl (fun s q => by cases q) (by simp; omega), .inl ⟨q1, q2, cmp_int _, cmp_int _, _, rfl, iteFx (by rw [eqv_int]; rfl) ?_⟩⟩
  exact r_u5 hb hm _
end VS

namespace VS
open PySem PySem.Spec PyProof.Rows L2
def topS (i : Nat) : Stmt := PySem.Challenge.pw_rankfall_k16_texts_refused.main.body.getD i (.Pass ⟨0, 0, 0, 0⟩)
section
variable {P : Program} {w : World} {K : PySem.W.Frag} {mg : Str → Option Value} {base : Heap}
/-! ### _law_next, by hand -/
abbrev s_l_next : Stmt := topS 28
theorem sc_l_next : FnScope ["_law_h", "_law_many", "_law_at", "_law_cell"] ["_law_h", "_law_many"] (defScope s_l_next) := ⟨rfl, rfl, rfl, by decide +kernel, rfl, by decide +kernel, by decide +kernel⟩
theorem w_l_next (T : FnT K mg "_law_next" s_l_next ["_law_h", "_law_many"]) (B : Blt mg) : FnC P w K mg base "_law_next" 1 ["_law_h", "_law_many"] (spW 1 [] p_l_next) := by
  obtain ⟨f, fd, hm, F, hB⟩ := T
  refine ⟨f, fd, hm, F.kp, hB, F.okX sc_l_next (fun vs H Q E h => ?_) (fun cdv A outer s H vs Q E hr h => ?_)⟩
  · obtain ⟨ah, ac, A, ds, r, Kp, _, _, _, hl, ha, _⟩ := h
    rw [ha.length, List.length_cons, hl]; rfl
  · obtain ⟨ah, ac, A0, ds, r, Kp, hne, ⟨hh, hc⟩, hA, hl, ha, hP, hK⟩ := h
    obtain ⟨many, rfl, h0, h30, hP⟩ := hP
    obtain ⟨v0, r0, rfl, e0, v1, r1, rfl, e1, e2⟩ := ha
    cases e0; cases e1; cases e2
    have hden : 0 < r.den := by unfold Rng.den; split <;> omega
    have hpl : 0 ≤ r.place ∧ r.place < r.den := ⟨Int.emod_nonneg _ (by omega), Int.emod_lt_of_pos _ hden⟩
    refine ⟨_, pss_cons (ps_set (i := 2) sc_l_next.nd rfl (.inl rfl) (pe_op op_mod (pe_ix ix_list (pv 0) pe_int (fun _ _ => rfl)) (pe_callB (call_max2 rfl) (by rfl) B.max_ (by decide +kernel) (pa_cons pe_int (pa_cons (pe_callB call_len_seq (by rfl) B.len_ PySem.boot_len (pa_cons (pe_ix ix_list (pv 0) pe_int (fun _ _ => rfl)) pa_nil)) pa_nil)))))
      (pss_cons (ps_set (i := 3) sc_l_next.nd rfl (.inl rfl) (pe_ifExp (pt_cmpR (op_neD hr.units) (pe_ix ix_list (pv 0) pe_int (fun _ _ => rfl)) (pe_lst pa_nil) (nomark _)) (pe_ix ix_list (pe_ix ix_list (pv 0) pe_int (fun _ _ => rfl)) (pv 2) (fun _ _ => rfl)) pe_int))
      (pss_cons (ps_if (pt_cmpR op_ge (pv 3) (pe_op op_pow pe_int pe_int) (nomark _)) (pss_cons (ps_asg (pe_op op_fdiv (pv 3) (pv 1)) (pg_sub (pe_ix ix_list (pv 0) pe_int (fun _ _ => rfl)) (pv 2) set_list)) (pss_one (ps_ret (pe_op op_mod (pv 3) (pv 1))))) pss_nil)
      (pss_cons (ps_asg (pe_op op_mod (pe_op op_add (pe_op op_add (pe_op op_mul (pe_ix ix_list (pv 0) pe_int (fun _ _ => rfl)) pe_int) (pe_op op_mul (pv 3) pe_int)) pe_int) pe_int) (pg_sub (pv 0) pe_int set_list))
      (pss_cons (ps_asg (pe_op op_add (pe_ix ix_list (pv 0) pe_int (fun _ _ => rfl)) pe_int) (pg_sub (pv 0) pe_int set_list))
      (pss_one (ps_ret (pe_op op_mod (pe_op op_fdiv (pe_ix ix_list (pv 0) pe_int (fun _ _ => rfl)) pe_int) (pv 1)))))))), ?_⟩
    -- at
    refine ⟨_, rfl, ah, _, 2, _, rfl, rfl, .of hh, rfl, _, rfl, ah, _, 1, _, rfl, rfl, .of hh, rfl, ac, _, rfl, .inl (.of hc), 1, _, rfl, r.at_, r.den, rfl, (by unfold Rng.den; rw [List.length_map]), hden, ?_⟩
    show (fun x H1 => _) (V.int r.place) H
    have neA : ∀ {H1 : Hp} {p : Addr}, Same H H1 → H1 p = none → ah ≠ p ∧ ac ≠ p := fun g hp => ⟨ne_of_none (g _ _ hh) hp, ne_of_none (g _ _ hc) hp⟩
    -- cell
    refine ⟨_, rfl, ah, _, 1, _, rfl, rfl, .of hh, rfl, Nat.zero_le _, fun p hp => ?_⟩
    have gp := same_new (o := .lst []) hp
    have hh1 := gp _ _ hh
    have hc1 := gp _ _ hc
    refine ⟨.list (D.pys (r.cells.map D.int)), .list [], ?_, .lst (.of upd_same) .nil, ?_, by decide, _, rfl, ?_⟩
    · exact .lst (.of hc1) (RepAll.dp _ (by rw [arePy_ints]) (RepAll.ofInts (H := upd H p (.lst [])) (O := fun _ => False) r.cells))
    · exact D.cmp.shaped (d := .lst (r.cells.map D.int)) ⟨by show D.arePy _ = true; rw [arePy_ints], by show D.depths _ + 1 ≤ 64; rw [depths_ints]; decide⟩
    have eeq : PyData.eqv (.list (D.pys (r.cells.map D.int))) (.list []) = decide (r.cells = []) := by
      cases r.cells with
      | nil => rfl
      | cons a l => rfl
    rw [eeq]
    have pl : r.cells ≠ [] → r.place.toNat < r.cells.length := fun z => by
      have hz : 0 < r.cells.length := List.length_pos_iff.mpr z
      have := hpl.2
      unfold Rng.den at this
      split at this <;> omega
    have tail1 : 10 ^ 18 ≤ r.cell → r.cells ≠ [] := fun z e => by
      unfold Rng.cell at z
      rw [if_pos e] at z
      exact absurd z (by decide)
    refine ite2 (fun e => ?_) (fun e => ?_)
    · have ne : r.cells ≠ [] := fun z => by rw [decide_eq_true z] at e; cases e
      have hi : ((r.cells.map V.int))[r.place.toNat]? = some (V.int r.cell) := by
        have := pl ne
        unfold Rng.cell
        rw [if_neg ne, List.getElem?_map, List.getElem?_eq_getElem this, List.getD_eq_getElem?_getD, List.getElem?_eq_getElem this]
        rfl
      refine ⟨_, rfl, ah, _, 1, _, rfl, rfl, .of hh1, rfl, _, rfl, ac, _, r.place, .int r.cell, rfl, rfl, .of hc1, at_of (j := r.place.toNat) (by omega) hi, ?_⟩
      exact by
        refine ⟨_, rfl, 10, 18, rfl, rfl, ⟨by decide, by decide, by decide⟩, _, _, rfl, rfl, _, rfl, ite2 (fun hge => ?_) (fun hlt => ?_)⟩
        · have hge : (10 : Int) ^ 18 ≤ r.cell := of_decide_eq_true hge
          have hnx : r.next many = (r.cell % many, { r with cells := r.cells.set r.place.toNat (r.cell / many) }) := by unfold Rng.next; rw [if_pos hge]
          rw [hnx] at hP
          have pl1 := pl (tail1 hge)
          refine ⟨_, rfl, _, rfl, _, _, rfl, rfl, ⟨h0, h30⟩, _, rfl, ah, _, 1, _, rfl, rfl, .of hh1, rfl, _, rfl, ac, _, r.place, r.place.toNat, rfl, rfl, hc1, ixN_ok hpl.1 (by rw [List.length_map]; omega), _, rfl, _, rfl, _, _, rfl, rfl, h0, ?_⟩
          refine hK _ _ _ _ hP (ext_upd (.same gp) (.inr rfl) ⟨_, hc1⟩) ⟨?_, ?_⟩ rfl
          · rw [upd_ne hne]; exact hh1
          · rw [upd_same, List.map_set]
        · have hlt : ¬ (10 : Int) ^ 18 ≤ r.cell := fun z => hlt (decide_eq_true z)
          have hnx : r.next many = ((r.seed * 48271 + r.cell * 69621 + 11) % 2147483647 / 7 % many, { r with seed := (r.seed * 48271 + r.cell * 69621 + 11) % 2147483647, at_ := r.at_ + 1 }) := by unfold Rng.next; rw [if_neg hlt]
          rw [hnx] at hP
          refine ⟨_, rfl, ah, _, 0, _, rfl, rfl, .of hh1, rfl, _, _, rfl, rfl, .inr ⟨by decide, by decide⟩, _, rfl, _, _, rfl, rfl, .inr ⟨by decide, by decide⟩, _, _, rfl, rfl, _, _, rfl, rfl, _, _, rfl, rfl, (by show (0 : Int) < 2147483647; decide), _, rfl, ah, _, 0, 0, rfl, rfl, hh1, rfl, ?_⟩
          have hh2 := upd_same (H := upd H p (.lst [])) (a := ah) (o := .lst ([V.int r.seed, V.ref ac, V.int r.at_].set 0 (.int ((r.seed * 48271 + r.cell * 69621 + 11) % 2147483647))))
          refine ⟨_, rfl, ah, _, 2, _, rfl, rfl, .of hh2, rfl, _, _, rfl, rfl, _, rfl, ah, _, 2, 2, rfl, rfl, hh2, rfl, ?_⟩
          have hh3 := upd_same (H := upd (upd H p (.lst [])) ah (.lst ([V.int r.seed, V.ref ac, V.int r.at_].set 0 (.int ((r.seed * 48271 + r.cell * 69621 + 11) % 2147483647))))) (a := ah) (o := .lst (([V.int r.seed, V.ref ac, V.int r.at_].set 0 (.int ((r.seed * 48271 + r.cell * 69621 + 11) % 2147483647))).set 2 (.int (r.at_ + 1))))
          refine ⟨_, rfl, ah, _, 0, _, rfl, rfl, .of hh3, rfl, _, _, rfl, rfl, ⟨by decide, by decide⟩, _, rfl, _, _, rfl, rfl, h0, ?_⟩
          refine hK _ _ _ _ hP (ext_upd (ext_upd (.same gp) (.inl rfl) ⟨_, hh1⟩) (.inl rfl) ⟨_, hh2⟩) ⟨hh3, ?_⟩ rfl
          rw [upd_ne (Ne.symm hne), upd_ne (Ne.symm hne)]
          exact hc1
    · have ec : r.cells = [] := by
        by_cases z : r.cells = []
        · exact z
        · rw [decide_eq_false z] at e; exact absurd rfl e
      have hz : (0 : Int) = r.cell := by unfold Rng.cell; rw [if_pos ec]
      have hcv : r.cell = 0 := hz.symm
      exact by
        refine ⟨_, rfl, 10, 18, rfl, rfl, ⟨by decide, by decide, by decide⟩, _, _, rfl, rfl, _, rfl, ite2 (fun hge => ?_) (fun hlt => ?_)⟩
        · exact absurd (of_decide_eq_true hge) (by decide)
        · have hlt : ¬ (10 : Int) ^ 18 ≤ 0 := fun z => hlt (decide_eq_true z)
          have hnx : r.next many = ((r.seed * 48271 + 0 * 69621 + 11) % 2147483647 / 7 % many, { r with seed := (r.seed * 48271 + 0 * 69621 + 11) % 2147483647, at_ := r.at_ + 1 }) := by unfold Rng.next; rw [hcv, if_neg hlt]
          rw [hnx] at hP
          refine ⟨_, rfl, ah, _, 0, _, rfl, rfl, .of hh1, rfl, _, _, rfl, rfl, .inr ⟨by decide, by decide⟩, _, rfl, _, _, rfl, rfl, .inr ⟨by decide, by decide⟩, _, _, rfl, rfl, _, _, rfl, rfl, _, _, rfl, rfl, (by show (0 : Int) < 2147483647; decide), _, rfl, ah, _, 0, 0, rfl, rfl, hh1, rfl, ?_⟩
          have hh2 := upd_same (H := upd H p (.lst [])) (a := ah) (o := .lst ([V.int r.seed, V.ref ac, V.int r.at_].set 0 (.int ((r.seed * 48271 + 0 * 69621 + 11) % 2147483647))))
          refine ⟨_, rfl, ah, _, 2, _, rfl, rfl, .of hh2, rfl, _, _, rfl, rfl, _, rfl, ah, _, 2, 2, rfl, rfl, hh2, rfl, ?_⟩
          have hh3 := upd_same (H := upd (upd H p (.lst [])) ah (.lst ([V.int r.seed, V.ref ac, V.int r.at_].set 0 (.int ((r.seed * 48271 + 0 * 69621 + 11) % 2147483647))))) (a := ah) (o := .lst (([V.int r.seed, V.ref ac, V.int r.at_].set 0 (.int ((r.seed * 48271 + 0 * 69621 + 11) % 2147483647))).set 2 (.int (r.at_ + 1))))
          refine ⟨_, rfl, ah, _, 0, _, rfl, rfl, .of hh3, rfl, _, _, rfl, rfl, ⟨by decide, by decide⟩, _, rfl, _, _, rfl, rfl, h0, ?_⟩
          refine hK _ _ _ _ hP (ext_upd (ext_upd (.same gp) (.inl rfl) ⟨_, hh1⟩) (.inl rfl) ⟨_, hh2⟩) ⟨hh3, ?_⟩ rfl
          rw [upd_ne (Ne.symm hne), upd_ne (Ne.symm hne)]
          exact hc1

abbrev se_BadBook : Stmt := inClass (topS 2) 0
theorem sce_BadBook : FnScope ["self", "at", "why"] ["self", "at", "why"] (defScope se_BadBook) := ⟨rfl, rfl, rfl, by decide +kernel, rfl, by decide +kernel, by decide +kernel⟩
theorem we_BadBook {Cc : Addr} (T : MkTE K mg "BadBook" Cc "BadBook.__init__" se_BadBook ["self", "at", "why"]) (F0 : PySem.W.findIn K (.ref Cc) "at" = some none) (F1 : PySem.W.findIn K (.ref Cc) "why" = some none) : MkE P w K mg base "BadBook" 1 2 ["why", "at"] :=
  okE2 T sce_BadBook rfl F0 F1 fun fa cdv A outer s H E => (pss_cons (ps_ost (pv 0) (pv 1)) (pss_one (ps_ost (pv 0) (pv 2))))

abbrev se_BadText : Stmt := inClass (topS 6) 0
theorem sce_BadText : FnScope ["self", "row"] ["self", "row"] (defScope se_BadText) := ⟨rfl, rfl, rfl, by decide +kernel, rfl, by decide +kernel, by decide +kernel⟩
theorem we_BadText {Cc : Addr} (T : MkTE K mg "BadText" Cc "BadText.__init__" se_BadText ["self", "row"]) (F0 : PySem.W.findIn K (.ref Cc) "row" = some none) : MkE P w K mg base "BadText" 1 1 ["row"] :=
  okE1 T sce_BadText rfl F0 fun fa cdv A outer s H E => (pss_one (ps_ost (pv 0) (pv 1)))

abbrev s_need : Stmt := topS 16
theorem sc_need : FnScope ["good", "at", "why"] ["good", "at", "why"] (defScope s_need) := ⟨rfl, rfl, rfl, by decide +kernel, rfl, by decide +kernel, by decide +kernel⟩
theorem w_need (T : FnT K mg "need" s_need ["good", "at", "why"]) (B : Blt mg) : FnC P w K mg base "need" 3 ["good", "at", "why"] (spD 3 [] p_need) := by
  refine okD T sc_need rfl fun f cdv A outer s H E A0 hA hr => ⟨m_need _, ?_, fun ds Kp hl hp => r_need ds Kp hl hp ()⟩
  exact (vs_one (vif (vt_not (vt_val (vn (pv 0)))) (vs_one vnever) vs0))

abbrev sx_need : Stmt := topS 16
theorem scx_need : FnScope ["good", "at", "why"] ["good", "at", "why"] (defScope sx_need) := ⟨rfl, rfl, rfl, by decide +kernel, rfl, by decide +kernel, by decide +kernel⟩
theorem w_x_need (T : FnT K mg "need" sx_need ["good", "at", "why"]) (B : Blt mg) (GE_BadBook : MkE P w K mg base "BadBook" 1 2 ["why", "at"]) : FnC P w K mg base "need" 3 ["good", "at", "why"] (spX mg 3 [] p_x_need) := by
  refine okX T scx_need rfl fun f cdv A outer s H E A0 hA Kx hE hr => ⟨(m_x_need Kx) _, ?_, fun ds Kp hl hp => r_x_need ds Kp Kx hl hp ()⟩
  exact (vs_one (vif (vt_not (vt_val (vn (pv 0)))) (vs_one (vraiseX GE_BadBook rfl (hr.mono (by decide)) (out_of hE) passL (va (vn (pv 1)) (va (vn (pv 2)) va0)) (by decide) rfl)) vs0))

abbrev s_need_book : Stmt := topS 17
theorem sc_need_book : FnScope ["book", "cash", "claims", "house", "coins", "number", "claim"] ["book"] (defScope s_need_book) := ⟨rfl, rfl, rfl, by decide +kernel, rfl, by decide +kernel, by decide +kernel⟩
theorem w_need_book (T : FnT K mg "need_book" s_need_book ["book"]) (B : Blt mg) (G_need : FnC P w K mg base "need" 3 ["good", "at", "why"] (spD 3 [] p_need)) (C_MOST_HOUSES : ∃ t, mg "MOST_HOUSES" = some (.int 8 t)) (C_MOST_COINS : ∃ t, mg "MOST_COINS" = some (.int 999 t)) (C_MOST_CLAIMS : ∃ t, mg "MOST_CLAIMS" = some (.int 24 t)) (C_DEBTOR : ∃ t, mg "DEBTOR" = some (.int 0 t)) (C_CREDITOR : ∃ t, mg "CREDITOR" = some (.int 1 t)) (C_AMOUNT : ∃ t, mg "AMOUNT" = some (.int 2 t)) (C_RANK : ∃ t, mg "RANK" = some (.int 3 t)) (C_MOST_RANK : ∃ t, mg "MOST_RANK" = some (.int 9 t)) : FnC P w K mg base "need_book" 4 ["book"] (spD 1 [] p_need_book) := by
  obtain ⟨_, c_MOST_HOUSES⟩ := C_MOST_HOUSES
  obtain ⟨_, c_MOST_COINS⟩ := C_MOST_COINS
  obtain ⟨_, c_MOST_CLAIMS⟩ := C_MOST_CLAIMS
  obtain ⟨_, c_DEBTOR⟩ := C_DEBTOR
  obtain ⟨_, c_CREDITOR⟩ := C_CREDITOR
  obtain ⟨_, c_AMOUNT⟩ := C_AMOUNT
  obtain ⟨_, c_RANK⟩ := C_RANK
  obtain ⟨_, c_MOST_RANK⟩ := C_MOST_RANK
  refine okD T sc_need_book rfl fun f cdv A outer s H E A0 hA hr => ⟨m_need_book _, ?_, fun ds Kp hl hp => r_need_book ds Kp hl hp ()⟩
  exact (vs_cons (vasg (.tp [1, 2]) (ps_asg (vn (pv 0)) (pg_tup rfl (pgs_cons (pg_name (i := 1) sc_need_book.nd rfl (Or.inl rfl)) (pgs_cons (pg_name (i := 2) sc_need_book.nd rfl (Or.inl rfl)) pgs_nil)))))
  (vs_cons (vexpr (vcall G_need hr passL (va (vchain op_le s_le op_le s_le (vci pe_int) (vcB call_lenA s_len B.len_ (va (vn (pv 1)) va0)) (vci (pe_glob rfl c_MOST_HOUSES ⟨_, rfl⟩))) (va (vci pe_int) (va (vcs pe_str) va0)))))
  (vs_cons (vfor (.tp [3, 4]) (passes_of rfl) rfl (vi_enumT B.enumerate_ (va (vn (pv 1)) va0)) (pg_tup rfl (pgs_cons (pg_name (i := 3) sc_need_book.nd rfl (Or.inl rfl)) (pgs_cons (pg_name (i := 4) sc_need_book.nd rfl (Or.inl rfl)) pgs_nil))) (vs_one (vexpr (vcall G_need hr passL (va (vchain op_le s_le op_le s_le (vci pe_int) (vn (pv 4)) (vci (pe_glob rfl c_MOST_COINS ⟨_, rfl⟩))) (va (vn (pv 3)) (va (vcs pe_str) va0)))))))
  (vs_cons (vexpr (vcall G_need hr passL (va (vcmp op_le s_le (nomark _) (vcB call_lenA s_len B.len_ (va (vn (pv 2)) va0)) (vci (pe_glob rfl c_MOST_CLAIMS ⟨_, rfl⟩))) (va (vci pe_int) (va (vcs pe_str) va0)))))
  (vs_one (vfor (.tp [5, 6]) (passes_of rfl) rfl (vi_enumT B.enumerate_ (va (vn (pv 2)) va0)) (pg_tup rfl (pgs_cons (pg_name (i := 5) sc_need_book.nd rfl (Or.inl rfl)) (pgs_cons (pg_name (i := 6) sc_need_book.nd rfl (Or.inl rfl)) pgs_nil))) (vs_cons (vfor (.nm 3) (passes_of rfl) rfl (vi_tup (vsl (vn (pv 6)) vo0 (vo1 (vci pe_int)))) (pg_name (i := 3) sc_need_book.nd rfl (Or.inl rfl)) (vs_one (vexpr (vcall G_need hr passL (va (vchain op_le s_le op_lt s_lt (vci pe_int) (vn (pv 3)) (vcB call_lenA s_len B.len_ (va (vn (pv 1)) va0))) (va (vn (pv 5)) (va (vcs pe_str) va0)))))))
  (vs_cons (vexpr (vcall G_need hr passL (va (vcmp (op_neD hr.units) s_ne (nomark _) (vix ix_seq s_ix (fun _ _ => rfl) (vn (pv 6)) (vci (pe_glob rfl c_DEBTOR ⟨_, rfl⟩))) (vix ix_seq s_ix (fun _ _ => rfl) (vn (pv 6)) (vci (pe_glob rfl c_CREDITOR ⟨_, rfl⟩)))) (va (vn (pv 5)) (va (vcs pe_str) va0)))))
  (vs_cons (vexpr (vcall G_need hr passL (va (vchain op_le s_le op_le s_le (vci pe_int) (vix ix_seq s_ix (fun _ _ => rfl) (vn (pv 6)) (vci (pe_glob rfl c_AMOUNT ⟨_, rfl⟩))) (vci (pe_glob rfl c_MOST_COINS ⟨_, rfl⟩))) (va (vn (pv 5)) (va (vcs pe_str) va0)))))
  (vs_one (vexpr (vcall G_need hr passL (va (vchain op_le s_le op_le s_le (vci pe_int) (vix ix_seq s_ix (fun _ _ => rfl) (vn (pv 6)) (vci (pe_glob rfl c_RANK ⟨_, rfl⟩))) (vci (pe_glob rfl c_MOST_RANK ⟨_, rfl⟩))) (va (vn (pv 5)) (va (vcs pe_str) va0)))))))))))))))

abbrev sx_need_book : Stmt := topS 17
theorem scx_need_book : FnScope ["book", "cash", "claims", "house", "coins", "number", "claim"] ["book"] (defScope sx_need_book) := ⟨rfl, rfl, rfl, by decide +kernel, rfl, by decide +kernel, by decide +kernel⟩
theorem w_x_need_book (T : FnT K mg "need_book" sx_need_book ["book"]) (B : Blt mg) (G_x_need : FnC P w K mg base "need" 3 ["good", "at", "why"] (spX mg 3 [] p_x_need)) (C_MOST_HOUSES : ∃ t, mg "MOST_HOUSES" = some (.int 8 t)) (C_MOST_COINS : ∃ t, mg "MOST_COINS" = some (.int 999 t)) (C_MOST_CLAIMS : ∃ t, mg "MOST_CLAIMS" = some (.int 24 t)) (C_DEBTOR : ∃ t, mg "DEBTOR" = some (.int 0 t)) (C_CREDITOR : ∃ t, mg "CREDITOR" = some (.int 1 t)) (C_AMOUNT : ∃ t, mg "AMOUNT" = some (.int 2 t)) (C_RANK : ∃ t, mg "RANK" = some (.int 3 t)) (C_MOST_RANK : ∃ t, mg "MOST_RANK" = some (.int 9 t)) : FnC P w K mg base "need_book" 4 ["book"] (spX mg 1 [] p_x_need_book) := by
  obtain ⟨_, c_MOST_HOUSES⟩ := C_MOST_HOUSES
  obtain ⟨_, c_MOST_COINS⟩ := C_MOST_COINS
  obtain ⟨_, c_MOST_CLAIMS⟩ := C_MOST_CLAIMS
  obtain ⟨_, c_DEBTOR⟩ := C_DEBTOR
  obtain ⟨_, c_CREDITOR⟩ := C_CREDITOR
  obtain ⟨_, c_AMOUNT⟩ := C_AMOUNT
  obtain ⟨_, c_RANK⟩ := C_RANK
  obtain ⟨_, c_MOST_RANK⟩ := C_MOST_RANK
  refine okX T scx_need_book rfl fun f cdv A outer s H E A0 hA Kx hE hr => ⟨(m_x_need_book Kx) _, ?_, fun ds Kp hl hp => r_x_need_book ds Kp Kx hl hp ()⟩
  exact (vs_cons (vasg (.tp [1, 2]) (ps_asg (vn (pv 0)) (pg_tup rfl (pgs_cons (pg_name (i := 1) scx_need_book.nd rfl (Or.inl rfl)) (pgs_cons (pg_name (i := 2) scx_need_book.nd rfl (Or.inl rfl)) pgs_nil)))))
  (vs_cons (vexpr (vcallX G_x_need hr (out_of hE) (va (vchain op_le s_le op_le s_le (vci pe_int) (vcB call_lenA s_len B.len_ (va (vn (pv 1)) va0)) (vci (pe_glob rfl c_MOST_HOUSES ⟨_, rfl⟩))) (va (vci pe_int) (va (vcs pe_str) va0)))))
  (vs_cons (vfor (.tp [3, 4]) (passes_of rfl) rfl (vi_enumT B.enumerate_ (va (vn (pv 1)) va0)) (pg_tup rfl (pgs_cons (pg_name (i := 3) scx_need_book.nd rfl (Or.inl rfl)) (pgs_cons (pg_name (i := 4) scx_need_book.nd rfl (Or.inl rfl)) pgs_nil))) (vs_one (vexpr (vcallX G_x_need hr (out_of hE) (va (vchain op_le s_le op_le s_le (vci pe_int) (vn (pv 4)) (vci (pe_glob rfl c_MOST_COINS ⟨_, rfl⟩))) (va (vn (pv 3)) (va (vcs pe_str) va0)))))))
  (vs_cons (vexpr (vcallX G_x_need hr (out_of hE) (va (vcmp op_le s_le (nomark _) (vcB call_lenA s_len B.len_ (va (vn (pv 2)) va0)) (vci (pe_glob rfl c_MOST_CLAIMS ⟨_, rfl⟩))) (va (vci pe_int) (va (vcs pe_str) va0)))))
  (vs_one (vfor (.tp [5, 6]) (passes_of rfl) rfl (vi_enumT B.enumerate_ (va (vn (pv 2)) va0)) (pg_tup rfl (pgs_cons (pg_name (i := 5) scx_need_book.nd rfl (Or.inl rfl)) (pgs_cons (pg_name (i := 6) scx_need_book.nd rfl (Or.inl rfl)) pgs_nil))) (vs_cons (vfor (.nm 3) (passes_of rfl) rfl (vi_tup (vsl (vn (pv 6)) vo0 (vo1 (vci pe_int)))) (pg_name (i := 3) scx_need_book.nd rfl (Or.inl rfl)) (vs_one (vexpr (vcallX G_x_need hr (out_of hE) (va (vchain op_le s_le op_lt s_lt (vci pe_int) (vn (pv 3)) (vcB call_lenA s_len B.len_ (va (vn (pv 1)) va0))) (va (vn (pv 5)) (va (vcs pe_str) va0)))))))
  (vs_cons (vexpr (vcallX G_x_need hr (out_of hE) (va (vcmp (op_neD hr.units) s_ne (nomark _) (vix ix_seq s_ix (fun _ _ => rfl) (vn (pv 6)) (vci (pe_glob rfl c_DEBTOR ⟨_, rfl⟩))) (vix ix_seq s_ix (fun _ _ => rfl) (vn (pv 6)) (vci (pe_glob rfl c_CREDITOR ⟨_, rfl⟩)))) (va (vn (pv 5)) (va (vcs pe_str) va0)))))
  (vs_cons (vexpr (vcallX G_x_need hr (out_of hE) (va (vchain op_le s_le op_le s_le (vci pe_int) (vix ix_seq s_ix (fun _ _ => rfl) (vn (pv 6)) (vci (pe_glob rfl c_AMOUNT ⟨_, rfl⟩))) (vci (pe_glob rfl c_MOST_COINS ⟨_, rfl⟩))) (va (vn (pv 5)) (va (vcs pe_str) va0)))))
  (vs_one (vexpr (vcallX G_x_need hr (out_of hE) (va (vchain op_le s_le op_le s_le (vci pe_int) (vix ix_seq s_ix (fun _ _ => rfl) (vn (pv 6)) (vci (pe_glob rfl c_RANK ⟨_, rfl⟩))) (vci (pe_glob rfl c_MOST_RANK ⟨_, rfl⟩))) (va (vn (pv 5)) (va (vcs pe_str) va0)))))))))))))))

abbrev s_written : Stmt := topS 21
theorem sc_written : FnScope ["book", "rows", "debtor", "creditor", "amount", "rank", "coins"] ["book"] (defScope s_written) := ⟨rfl, rfl, rfl, by decide +kernel, rfl, by decide +kernel, by decide +kernel⟩
theorem w_written (T : FnT K mg "written" s_written ["book"]) (B : Blt mg) (G_need_book : FnC P w K mg base "need_book" 4 ["book"] (spD 1 [] p_need_book)) : FnC P w K mg base "written" 5 ["book"] (spD 1 [] p_written) := by
  refine okD T sc_written rfl fun f cdv A outer s H E A0 hA hr => ⟨m_written _, ?_, fun ds Kp hl hp => r_written ds Kp hl hp ()⟩
  exact (vs_cons (vexpr (vcall G_need_book hr passL (va (vn (pv 0)) va0)))
  (vs_cons (vown 1 (ps_asg (vlst (va (vop op_add4 s_add (vcs pe_str) (vjoin (pe_join (vcs pe_str) (vlc (own := [("coins", 6)]) (.nm 6) (by decide) rfl sc_written.nd (vi_tup (vix ix_seq s_ix (fun _ _ => rfl) (vn (pv 0)) (vci pe_int))) (blkOk_by (own := [("coins", 6)]) (N := ["book", "rows", "debtor", "creditor", "amount", "rank", "coins"]) (sc := defScope s_written) (by decide +kernel)) (fun _ _ _ _ _ => (pg_name (i := 6) sc_written.nd rfl (Or.inl rfl))) (fun _ _ _ _ _ => vts0) (fun _ _ _ _ _ => (vcT call_str_int s_str1 B.str_ (va (vn (pv 6)) va0))))))) va0)) (pg_name (i := 1) sc_written.nd rfl (Or.inl rfl))))
  (vs_cons (vfor (.tp [2, 3, 4, 5]) (passes_of rfl) rfl (vi_tup (vix ix_seq s_ix (fun _ _ => rfl) (vn (pv 0)) (vci pe_int))) (pg_tup rfl (pgs_cons (pg_name (i := 2) sc_written.nd rfl (Or.inl rfl)) (pgs_cons (pg_name (i := 3) sc_written.nd rfl (Or.inl rfl)) (pgs_cons (pg_name (i := 4) sc_written.nd rfl (Or.inl rfl)) (pgs_cons (pg_name (i := 5) sc_written.nd rfl (Or.inl rfl)) pgs_nil))))) (vs_one (vapp 1 (ps_expr (pe_bm PySem.F.plainAttrs_list PySem.F.slot_list_append PySem.F.type_list_append mt_append (pv 1) (va (vop op_add4 s_add (vop op_add4 s_add (vop op_add4 s_add (vop op_add4 s_add (vop op_add4 s_add (vop op_add4 s_add (vcT call_str_int s_str1 B.str_ (va (vn (pv 2)) va0)) (vcs pe_str)) (vcT call_str_int s_str1 B.str_ (va (vn (pv 3)) va0))) (vcs pe_str)) (vcT call_str_int s_str1 B.str_ (va (vn (pv 4)) va0))) (vcs pe_str)) (vcT call_str_int s_str1 B.str_ (va (vn (pv 5)) va0))) va0))))))
  (vs_one (vret (vjoin (pe_join (vcs pe_str) (vn (pv 1)))))))))

abbrev s_is_number : Stmt := topS 22
theorem sc_is_number : FnScope ["word", "sign"] ["word"] (defScope s_is_number) := ⟨rfl, rfl, rfl, by decide +kernel, rfl, by decide +kernel, by decide +kernel⟩
theorem w_is_number (T : FnT K mg "is_number" s_is_number ["word"]) (B : Blt mg) (C_MOST_FIGURES : ∃ t, mg "MOST_FIGURES" = some (.int 9 t)) (C_FIGURES : ∃ t, mg "FIGURES" = some (.str "0123456789" t)) : FnC P w K mg base "is_number" 1 ["word"] (spD 1 [] p_is_number) := by
  obtain ⟨_, c_MOST_FIGURES⟩ := C_MOST_FIGURES
  obtain ⟨_, c_FIGURES⟩ := C_FIGURES
  refine okD T sc_is_number rfl fun f cdv A outer s H E A0 hA hr => ⟨m_is_number _, ?_, fun ds Kp hl hp => r_is_number ds Kp hl hp ()⟩
  exact (vs_cons (vif (PW.pt (vw_or (vt_not (vt_chain op_le s_le op_le s_le (vci pe_int) (vcB call_lenA s_len B.len_ (va (vn (pv 0)) va0)) (vci (pe_glob rfl c_MOST_FIGURES ⟨_, rfl⟩)))) (vw_or1 (PW.pt (vw_and (vt_cmp (op_eqD hr.units) s_eq (nomark _) (vix ix_seq s_ix (fun _ _ => rfl) (vn (pv 0)) (vci pe_int)) (vcs pe_str)) (vw_and1 (vt_cmp (op_neD hr.units) s_ne (nomark _) (vn (pv 0)) (vcs pe_str)))))))) (vs_one (vret (vcb pe_bl))) vs0)
  (vs_cons (vfor (.nm 1) (passes_of rfl) rfl (vi_str (vn (pv 0))) (pg_name (i := 1) sc_is_number.nd rfl (Or.inl rfl)) (vs_one (vif (vt_cmp op_notIn_sign s_notInS (by rfl) (vn (pv 1)) (vcs (pe_glob rfl c_FIGURES ⟨_, rfl⟩))) (vs_one (vret (vcb pe_bl))) vs0)))
  (vs_one (vret (vcb pe_bl)))))

abbrev sx_numbers_of : Stmt := topS 23
theorem scx_numbers_of : FnScope ["words", "row", "word"] ["words", "row"] (defScope sx_numbers_of) := ⟨rfl, rfl, rfl, by decide +kernel, rfl, by decide +kernel, by decide +kernel⟩
theorem w_x_numbers_of (T : FnT K mg "numbers_of" sx_numbers_of ["words", "row"]) (B : Blt mg) (G_is_number : FnC P w K mg base "is_number" 1 ["word"] (spD 1 [] p_is_number)) (GE_BadText : MkE P w K mg base "BadText" 1 1 ["row"]) : FnC P w K mg base "numbers_of" 3 ["words", "row"] (spX mg 2 [] p_x_numbers_of) := by
  refine okX T scx_numbers_of rfl fun f cdv A outer s H E A0 hA Kx hE hr => ⟨(m_x_numbers_of Kx) _, ?_, fun ds Kp hl hp => r_x_numbers_of ds Kp Kx hl hp ()⟩
  exact (vs_cons (vfor (.nm 2) (passes_of rfl) rfl (vi_list (vn (pv 0))) (pg_name (i := 2) scx_numbers_of.nd rfl (Or.inl rfl)) (vs_one (vif (vt_not (vt_val (vcall G_is_number (hr.mono (by decide)) passL (va (vn (pv 2)) va0)))) (vs_one (vraiseX GE_BadText rfl (hr.mono (by decide)) (out_of hE) passL (va (vn (pv 1)) va0) (by decide) rfl)) vs0)))
  (vs_one (vret (vcT call_tuple_of s_tuple B.tuple_ (va (vlc (own := [("word", 2)]) (.nm 2) (by decide) rfl scx_numbers_of.nd (vi_list (vn (pv 0))) (blkOk_by (own := [("word", 2)]) (N := ["words", "row", "word"]) (sc := defScope sx_numbers_of) (by decide +kernel)) (fun _ _ _ _ _ => (pg_name (i := 2) scx_numbers_of.nd rfl (Or.inl rfl))) (fun _ _ _ _ _ => vts0) (fun _ _ _ _ _ => (vcT call_int_str s_intS B.int_ (va (vn (pv 2)) va0)))) va0)))))

abbrev sx_cash_of : Stmt := topS 24
theorem scx_cash_of : FnScope ["row", "words"] ["row"] (defScope sx_cash_of) := ⟨rfl, rfl, rfl, by decide +kernel, rfl, by decide +kernel, by decide +kernel⟩
theorem w_x_cash_of (T : FnT K mg "cash_of" sx_cash_of ["row"]) (B : Blt mg) (G_x_numbers_of : FnC P w K mg base "numbers_of" 3 ["words", "row"] (spX mg 2 [] p_x_numbers_of)) (GE_BadText : MkE P w K mg base "BadText" 1 1 ["row"]) : FnC P w K mg base "cash_of" 4 ["row"] (spX mg 1 [] p_x_cash_of) := by
  refine okX T scx_cash_of rfl fun f cdv A outer s H E A0 hA Kx hE hr => ⟨(m_x_cash_of Kx) _, ?_, fun ds Kp hl hp => r_x_cash_of ds Kp Kx hl hp ()⟩
  exact (vs_cons (vasg (.nm 1) (ps_asg (vsplit (pe_split (vn (pv 0)) (vcs pe_str))) (pg_name (i := 1) scx_cash_of.nd rfl (Or.inl rfl))))
  (vs_cons (vif (PW.pt (vw_or (vt_cmp (op_neD hr.units) s_ne (nomark _) (vix ix_seq s_ix (fun _ _ => rfl) (vn (pv 1)) (vci pe_int)) (vcs pe_str)) (vw_or1 (vt_cmp op_lt s_lt (nomark _) (vcB call_lenA s_len B.len_ (va (vn (pv 1)) va0)) (vci pe_int))))) (vs_one (vraiseX GE_BadText rfl (hr.mono (by decide)) (out_of hE) passL (va (vci pe_int) va0) (by decide) rfl)) vs0)
  (vs_one (vret (vcallX G_x_numbers_of hr (out_of hE) (va (vsl (vn (pv 1)) (vo1 (vci pe_int)) vo0) (va (vci pe_int) va0)))))))

abbrev sx_claim_of : Stmt := topS 25
theorem scx_claim_of : FnScope ["row", "at", "words"] ["row", "at"] (defScope sx_claim_of) := ⟨rfl, rfl, rfl, by decide +kernel, rfl, by decide +kernel, by decide +kernel⟩
theorem w_x_claim_of (T : FnT K mg "claim_of" sx_claim_of ["row", "at"]) (B : Blt mg) (G_x_numbers_of : FnC P w K mg base "numbers_of" 3 ["words", "row"] (spX mg 2 [] p_x_numbers_of)) (GE_BadText : MkE P w K mg base "BadText" 1 1 ["row"]) : FnC P w K mg base "claim_of" 4 ["row", "at"] (spX mg 2 [] p_x_claim_of) := by
  refine okX T scx_claim_of rfl fun f cdv A outer s H E A0 hA Kx hE hr => ⟨(m_x_claim_of Kx) _, ?_, fun ds Kp hl hp => r_x_claim_of ds Kp Kx hl hp ()⟩
  exact (vs_cons (vasg (.nm 2) (ps_asg (vsplit (pe_split (vn (pv 0)) (vcs pe_str))) (pg_name (i := 2) scx_claim_of.nd rfl (Or.inl rfl))))
  (vs_cons (vif (PW.pt (vw_or (vt_cmp (op_neD hr.units) s_ne (nomark _) (vcB call_lenA s_len B.len_ (va (vn (pv 2)) va0)) (vci pe_int)) (vw_or (vt_cmp (op_neD hr.units) s_ne (nomark _) (vix ix_seq s_ix (fun _ _ => rfl) (vn (pv 2)) (vci pe_int)) (vcs pe_str)) (vw_or1 (vt_cmp (op_neD hr.units) s_ne (nomark _) (vix ix_seq s_ix (fun _ _ => rfl) (vn (pv 2)) (vci pe_int)) (vcs pe_str)))))) (vs_one (vraiseX GE_BadText rfl (hr.mono (by decide)) (out_of hE) passL (va (vn (pv 1)) va0) (by decide) rfl)) vs0)
  (vs_one (vret (vcallX G_x_numbers_of hr (out_of hE) (va (vlst (va (vix ix_seq s_ix (fun _ _ => rfl) (vn (pv 2)) (vci pe_int)) (va (vix ix_seq s_ix (fun _ _ => rfl) (vn (pv 2)) (vci pe_int)) (va (vix ix_seq s_ix (fun _ _ => rfl) (vn (pv 2)) (vci pe_int)) (va (vix ix_seq s_ix (fun _ _ => rfl) (vn (pv 2)) (vci pe_int)) va0))))) (va (vn (pv 1)) va0)))))))

abbrev sx_read : Stmt := topS 26
theorem scx_read : FnScope ["text", "rows", "cash", "claims", "at"] ["text"] (defScope sx_read) := ⟨rfl, rfl, rfl, by decide +kernel, rfl, by decide +kernel, by decide +kernel⟩
theorem w_x_read (T : FnT K mg "read" sx_read ["text"]) (B : Blt mg) (G_x_cash_of : FnC P w K mg base "cash_of" 4 ["row"] (spX mg 1 [] p_x_cash_of)) (G_x_claim_of : FnC P w K mg base "claim_of" 4 ["row", "at"] (spX mg 2 [] p_x_claim_of)) (G_x_need_book : FnC P w K mg base "need_book" 4 ["book"] (spX mg 1 [] p_x_need_book)) : FnC P w K mg base "read" 5 ["text"] (spX mg 1 [] p_x_read) := by
  refine okX T scx_read rfl fun f cdv A outer s H E A0 hA Kx hE hr => ⟨(m_x_read Kx) _, ?_, fun ds Kp hl hp => r_x_read ds Kp Kx hl hp ()⟩
  exact (vs_cons (vasg (.nm 1) (ps_asg (vsplit (pe_split (vn (pv 0)) (vcs pe_str))) (pg_name (i := 1) scx_read.nd rfl (Or.inr rfl))))
  (vs_cons (vasg (.nm 2) (ps_asg (vcallX G_x_cash_of hr (out_of hE) (va (vix ix_seq s_ix (fun _ _ => rfl) (vn (pv 1)) (vci pe_int)) va0)) (pg_name (i := 2) scx_read.nd rfl (Or.inl rfl))))
  (vs_cons (vasg (.nm 3) (ps_asg (vcT call_tuple_of s_tuple B.tuple_ (va (vlcX (own := [("at", 4)]) (.nm 4) (by decide) rfl scx_read.nd rfl rfl (out_of hE) (vi_range2 B.range_ (va (vci pe_int) (va (vcB call_lenA s_len B.len_ (va (vn (pv 1)) va0)) va0))) (blkOk_by (own := [("at", 4)]) (N := ["text", "rows", "cash", "claims", "at"]) (sc := defScope sx_read) (by decide +kernel)) (fun _ _ _ _ _ => (pg_name (i := 4) scx_read.nd rfl (Or.inl rfl))) (fun _ _ _ _ _ => vts0) (fun _ _ _ _ _ hpp hkk => (vcallXp G_x_claim_of hr hpp hkk (va (vix ix_seq s_ix (fun _ _ => rfl) (vn (pv 1)) (vn (pv 4))) (va (vn (pv 4)) va0))))) va0)) (pg_name (i := 3) scx_read.nd rfl (Or.inl rfl))))
  (vs_cons (vexpr (vcallX G_x_need_book hr (out_of hE) (va (vtup (va (vn (pv 2)) (va (vn (pv 3)) va0))) va0)))
  (vs_one (vret (vtup (va (vn (pv 2)) (va (vn (pv 3)) va0)))))))))

abbrev s_l_book : Stmt := topS 29
theorem sc_l_book : FnScope ["_law_h", "_law_houses", "_law_claims", "_law_wide", "_law_many", "_law_most", "_law_ranks", "_law_cash", "_law_rows", "_law_k", "_law_debtor", "_law_creditor"] ["_law_h", "_law_houses", "_law_claims", "_law_wide"] (defScope s_l_book) := ⟨rfl, rfl, rfl, by decide +kernel, rfl, by decide +kernel, by decide +kernel⟩
theorem w_l_book (T : FnT K mg "_law_book" s_l_book ["_law_h", "_law_houses", "_law_claims", "_law_wide"]) (B : Blt mg) (G_l_next : FnC P w K mg base "_law_next" 1 ["_law_h", "_law_many"] (spW 1 [] p_l_next)) : FnC P w K mg base "_law_book" 2 ["_law_h", "_law_houses", "_law_claims", "_law_wide"] (spW 3 [] p_l_book) := by
  refine okW T sc_l_book rfl fun f cdv A outer s H E ah ac A0 hA h1 h2 hne hr => ⟨m_l_book _, ?_, fun ds r Kp hl hp => r_l_book ds r Kp hl hp⟩
  have hC : IsR (rngC ah ac A0 H hA h1 h2) ac := ⟨hne, fun _ => Iff.rfl, fun _ _ => Iff.rfl⟩
  exact (vs_cons (vasg (.nm 4) (ps_asg (vop op_add4 s_add (vci pe_int) (vcallW G_l_next hC hr passL (va (vn (pv 0)) (va (vn (pv 1)) va0)))) (pg_name (i := 4) sc_l_book.nd rfl (Or.inl rfl))))
  (vs_cons (vasg (.nm 5) (ps_asg (vix ix_seq s_ix (fun _ _ => rfl) (vlst (va (vci pe_int) (va (vci pe_int) (va (vn (pv 3)) va0)))) (vcallW G_l_next hC hr passL (va (vn (pv 0)) (va (vci pe_int) va0)))) (pg_name (i := 5) sc_l_book.nd rfl (Or.inr rfl))))
  (vs_cons (vasg (.nm 6) (ps_asg (vix ix_seq s_ix (fun _ _ => rfl) (vlst (va (vci pe_int) (va (vci pe_int) (va (vci pe_int) va0)))) (vcallW G_l_next hC hr passL (va (vn (pv 0)) (va (vci pe_int) va0)))) (pg_name (i := 6) sc_l_book.nd rfl (Or.inl rfl))))
  (vs_cons (vasg (.nm 7) (ps_asg (vcT call_tuple_of s_tuple B.tuple_ (va (vlc (own := [("_law_k", 9)]) (.nm 9) (by decide) rfl sc_l_book.nd (vi_range1 B.range_ (va (vn (pv 4)) va0)) (blkOk_by (own := [("_law_k", 9)]) (N := ["_law_h", "_law_houses", "_law_claims", "_law_wide", "_law_many", "_law_most", "_law_ranks", "_law_cash", "_law_rows", "_law_k", "_law_debtor", "_law_creditor"]) (sc := defScope s_l_book) (by decide +kernel)) (fun _ _ _ _ _ => (pg_name (i := 9) sc_l_book.nd rfl (Or.inl rfl))) (fun _ _ _ _ _ => vts0) (fun _ _ _ _ _ => (vop op_mul3 s_mul (vcallW G_l_next hC hr passL (va (vn (pv 0)) (va (vop op_add4 s_add (vn (pv 5)) (vci pe_int)) va0))) (vcT call_int1 s_int1 B.int_ (va (vcmp op_gt s_gt (nomark _) (vcallW G_l_next hC hr passL (va (vn (pv 0)) (va (vci pe_int) va0))) (vci pe_int)) va0))))) va0)) (pg_name (i := 7) sc_l_book.nd rfl (Or.inl rfl))))
  (vs_cons (vown 8 (ps_asg (vlst va0) (pg_name (i := 8) sc_l_book.nd rfl (Or.inl rfl))))
  (vs_cons (vfor (.nm 9) (passes_of rfl) rfl (vi_range1 B.range_ (va (vop op_mul3 s_mul (vcallW G_l_next hC hr passL (va (vn (pv 0)) (va (vop op_add4 s_add (vn (pv 2)) (vci pe_int)) va0))) (vcT call_int1 s_int1 B.int_ (va (vcmp op_gt s_gt (nomark _) (vn (pv 4)) (vci pe_int)) va0))) va0)) (pg_name (i := 9) sc_l_book.nd rfl (Or.inl rfl)) (vs_cons (vasg (.nm 10) (ps_asg (vcallW G_l_next hC hr passL (va (vn (pv 0)) (va (vn (pv 4)) va0))) (pg_name (i := 10) sc_l_book.nd rfl (Or.inl rfl))))
  (vs_cons (vasg (.nm 11) (ps_asg (vop op_mod s_mod (vop op_add4 s_add (vop op_add4 s_add (vn (pv 10)) (vci pe_int)) (vcallW G_l_next hC hr passL (va (vn (pv 0)) (va (vop op_sub s_sub (vn (pv 4)) (vci pe_int)) va0)))) (vn (pv 4))) (pg_name (i := 11) sc_l_book.nd rfl (Or.inl rfl))))
  (vs_one (vapp 8 (ps_expr (pe_bm PySem.F.plainAttrs_list PySem.F.slot_list_append PySem.F.type_list_append mt_append (pv 8) (va (vtup (va (vn (pv 10)) (va (vn (pv 11)) (va (vop op_add4 s_add (vci pe_int) (vcallW G_l_next hC hr passL (va (vn (pv 0)) (va (vn (pv 5)) va0)))) (va (vop op_add4 s_add (vci pe_int) (vcallW G_l_next hC hr passL (va (vn (pv 0)) (va (vn (pv 6)) va0)))) va0))))) va0))))))))
  (vs_one (vret (vtup (va (vn (pv 7)) (va (vcT call_tuple_of s_tuple B.tuple_ (va (vn (pv 8)) va0)) va0)))))))))))

abbrev s_l_refusal : Stmt := topS 30
theorem sc_l_refusal : FnScope ["_law_rows", "e"] ["_law_rows"] (defScope s_l_refusal) := ⟨rfl, rfl, rfl, by decide +kernel, rfl, by decide +kernel, by decide +kernel⟩
theorem w_l_refusal (T : FnT K mg "_law_refusal" s_l_refusal ["_law_rows"]) (B : Blt mg) (G_x_read : FnC P w K mg base "read" 5 ["text"] (spX mg 1 [] p_x_read)) (FL_BadText_row : FldK K mg "BadText" "row") (FL_BadBook_why : FldK K mg "BadBook" "why") (FL_BadBook_at : FldK K mg "BadBook" "at") (TK : TryK K mg "FallError" ["BadText", "BadBook"] ["BadPayments", "NoHouse", "NoMove", "BadText", "BadBook"]) : FnC P w K mg base "_law_refusal" 6 ["_law_rows"] (spD 1 [] p_l_refusal) := by
  refine okD T sc_l_refusal rfl fun f cdv A outer s H E A0 hA hr => ⟨m_l_refusal, ?_, fun ds Kp hl hp => r_l_refusal ds Kp hl hp⟩
  exact (vs_cons (vtryE (i := 1) (cl := ["BadText", "BadBook"]) (c := .ref (adr mg "FallError")) rfl rfl sc_l_refusal.nd rfl rfl ⟨rfl, by decide, .inl TK.hc⟩ (takes_of rfl rfl rfl rfl) TK.ct G_x_read hr (fun pn xe => (va (vjoin (pe_join (vcs pe_str) (vn (pv 0)))) va0)) (fun a oe cls d pn x H1 hz hf hx hcl => (vs_cons (vif (PW.pt (vw_or (vt_val (vexisT (cs := ["BadPayments", "NoHouse", "NoMove"]) (TK.ex _ hcl) (by decide) hz hf hx B.isinstance_ (pv 1) (.cons rfl (by decide) (.cons rfl (by decide) (.cons rfl (by decide) Nms.nil))) (by decide))) (vw_or1 (vt_not (vt_val (vexisV (TK.ex _ hcl) hz hf hx B.isinstance_ TK.nv (pv 1))))))) (vs_one (vret (vcn pe_non))) vs0)
  (vs_cons (vif (vt_val (vexis (TK.ex _ hcl) (by decide) hz hf hx B.isinstance_ (pv 1))) (vs_one (vret (ve_if (vt_val (vexis (TK.ex _ hcl) (by decide) hz hf hx B.isinstance_ (pv 1))) (vcn pe_non) (vexfC FL_BadText_row hz hf hx (pv 1))))) vs0)
  (vs_one (vret (vtup (va (vexfC FL_BadBook_at hz hf hx (pv 1)) (va (vexfC FL_BadBook_why hz hf hx (pv 1)) va0)))))))))
  (vs_one (vret (vcn pe_non))))

abbrev s_law : Stmt := topS 31
theorem sc_law : FnScope ["_law_script", "_law_h", "_law_book_here", "_law_rows", "_law_heads", "_law_odd", "_law_at", "_law_more", "_law_many", "_law_last", "_law_none", "_law_row", "_law_why"] ["_law_script"] (defScope s_law) := ⟨rfl, rfl, rfl, by decide +kernel, rfl, by decide +kernel, by decide +kernel⟩
theorem w_law {f : Addr} {fd : FuncData} (F : Fun K "law" "law" s_law f fd) (B : Blt mg) (G_l_book : FnC P w K mg base "_law_book" 2 ["_law_h", "_law_houses", "_law_claims", "_law_wide"] (spW 3 [] p_l_book)) (G_written : FnC P w K mg base "written" 5 ["book"] (spD 1 [] p_written)) (G_l_next : FnC P w K mg base "_law_next" 1 ["_law_h", "_law_many"] (spW 1 [] p_l_next)) (G_l_refusal : FnC P w K mg base "_law_refusal" 6 ["_law_rows"] (spD 1 [] p_l_refusal)) : FnOk P w K mg base (L2.CX P w) 7 f fd ["_law_script"] (spLaw K) := by
  refine okLaw (rest := (defBody s_law).tail) (seed := 71) F sc_law (by decide) rfl m_law (fun cdv A outer s H E hr => ⟨?_, fun ah ac A0 H0 hA h1 h2 hne => ?_⟩) r_law
  · exact ps_asg (pe_lst (pa_cons pe_int (pa_cons (pe_callTy call_list_of (by rfl) B.list_ (by decide +kernel) (pa_cons (pv 0) pa_nil)) (pa_cons pe_int pa_nil)))) (pg_name (i := 1) sc_law.nd rfl (Or.inl rfl))
  · have hC : IsR (rngC ah ac A0 H0 hA h1 h2) ac := ⟨hne, fun _ => Iff.rfl, fun _ _ => Iff.rfl⟩
    exact (vs_cons (vasg (.nm 2) (ps_asg (vcallW G_l_book hC (hr.mono (by decide)) passL (va (vn (pv 1)) (va (vci pe_int) (va (vci pe_int) (va (vci pe_int) va0))))) (pg_name (i := 2) sc_law.nd rfl (Or.inl rfl))))
  (vs_cons (vasg (.nm 3) (ps_asg (vsplit (pe_split (vcall G_written (hr.mono (by decide)) passL (va (vn (pv 2)) va0)) (vcs pe_str))) (pg_name (i := 3) sc_law.nd rfl (Or.inl rfl))))
  (vs_cons (vasg (.nm 4) (ps_asg (vlst (va (vcs pe_str) (va (vcs pe_str) (va (vcs pe_str) (va (vcs pe_str) (va (vcs pe_str) (va (vcs pe_str) (va (vcs pe_str) (va (vcs pe_str) (va (vcs pe_str) va0)))))))))) (pg_name (i := 4) sc_law.nd rfl (Or.inl rfl))))
  (vs_cons (vasg (.nm 4) (ps_asg (vop op_add4 s_add (vn (pv 4)) (vlst (va (vcs pe_str) (va (vcs pe_str) va0)))) (pg_name (i := 4) sc_law.nd rfl (Or.inl rfl))))
  (vs_cons (vif (vt_cmp (op_neD hr.units) s_ne (nomark _) (vcall G_l_refusal hr passL (va (vop op_add4 s_add (vlst (va (vix ix_seq s_ix (fun _ _ => rfl) (vn (pv 4)) (vcallW G_l_next hC (hr.mono (by decide)) passL (va (vn (pv 1)) (va (vci pe_int) va0)))) va0)) (vsl (vn (pv 3)) (vo1 (vci pe_int)) vo0)) va0)) (vci pe_int)) (vs_one (vret (vcb pe_bl))) vs0)
  (vs_cons (vown 5 (ps_asg (vlst (va (vcs pe_str) (va (vcs pe_str) (va (vcs pe_str) (va (vcs pe_str) (va (vcs pe_str) (va (vcs pe_str) (va (vcs pe_str) va0)))))))) (pg_name (i := 5) sc_law.nd rfl (Or.inl rfl))))
  (vs_cons (vown 5 (ps_asg (vop op_add4 s_add (vn (pv 5)) (vlst (va (vcs pe_str) (va (vcs pe_str) (va (vcs pe_str) (va (vcs pe_str) (va (vcs pe_str) (va (vcs pe_str) va0)))))))) (pg_name (i := 5) sc_law.nd rfl (Or.inl rfl))))
  (vs_cons (vown 5 (ps_asg (vop op_add4 s_add (vn (pv 5)) (vlst (va (vcs pe_str) (va (vcs pe_str) (va (vcs pe_str) (va (vcs pe_str) va0)))))) (pg_name (i := 5) sc_law.nd rfl (Or.inl rfl))))
  (vs_cons (vapp 5 (ps_expr (pe_bm PySem.F.plainAttrs_list PySem.F.slot_list_append PySem.F.type_list_append mt_append (pv 5) (va (vcs pe_str) va0))))
  (vs_cons (vasg (.nm 6) (ps_asg (vop op_add4 s_add (vci pe_int) (vcallW G_l_next hC (hr.mono (by decide)) passL (va (vn (pv 1)) (va (vcB call_lenA s_len B.len_ (va (vn (pv 3)) va0)) va0)))) (pg_name (i := 6) sc_law.nd rfl (Or.inl rfl))))
  (vs_cons (vasg (.nm 7) (ps_asg (vop op_add4 s_add (vsl (vn (pv 3)) (vo1 (vn (pv 6))) vo0) (vop op_mul3 s_mul (vlst (va (vcs pe_str) va0)) (vcallW G_l_next hC (hr.mono (by decide)) passL (va (vn (pv 1)) (va (vci pe_int) va0))))) (pg_name (i := 7) sc_law.nd rfl (Or.inl rfl))))
  (vs_cons (vif (vt_cmp (op_neD hr.units) s_ne (nomark _) (vcall G_l_refusal hr passL (va (vop op_add4 s_add (vop op_add4 s_add (vsl (vn (pv 3)) vo0 (vo1 (vn (pv 6)))) (vlst (va (vix ix_seq s_ix (fun _ _ => rfl) (vn (pv 5)) (vcallW G_l_next hC (hr.mono (by decide)) passL (va (vn (pv 1)) (va (vcB call_lenA s_len B.len_ (va (vn (pv 5)) va0)) va0)))) va0))) (vn (pv 7))) va0)) (vn (pv 6))) (vs_one (vret (vcb pe_bl))) vs0)
  (vs_cons (vasg (.nm 8) (ps_asg (vcB call_lenA s_len B.len_ (va (vix ix_seq s_ix (fun _ _ => rfl) (vn (pv 2)) (vci pe_int)) va0)) (pg_name (i := 8) sc_law.nd rfl (Or.inl rfl))))
  (vs_cons (vasg (.nm 9) (ps_asg (vop op_sub s_sub (vcB call_lenA s_len B.len_ (va (vn (pv 3)) va0)) (vci pe_int)) (pg_name (i := 9) sc_law.nd rfl (Or.inl rfl))))
  (vs_cons (vown 10 (ps_asg (vlst (va (vtup (va (vcs pe_str) (va (vcs pe_str) va0))) (va (vtup (va (vop op_add4 s_add (vop op_add4 s_add (vcs pe_str) (vcT call_str_int s_str1 B.str_ (va (vn (pv 8)) va0))) (vcs pe_str)) (va (vcs pe_str) va0))) va0))) (pg_name (i := 10) sc_law.nd rfl (Or.inl rfl))))
  (vs_cons (vapp 10 (ps_expr (pe_bm PySem.F.plainAttrs_list PySem.F.slot_list_append PySem.F.type_list_append mt_append (pv 10) (va (vtup (va (vcs pe_str) (va (vcs pe_str) va0))) va0))))
  (vs_cons (vif (vt_cmp op_gt s_gt (nomark _) (vn (pv 8)) (vci pe_int)) (vs_cons (vown 10 (ps_asg (vop op_add4 s_add (vn (pv 10)) (vlst (va (vtup (va (vcs pe_str) (va (vcs pe_str) va0))) (va (vtup (va (vcs pe_str) (va (vcs pe_str) va0))) va0)))) (pg_name (i := 10) sc_law.nd rfl (Or.inl rfl))))
  (vs_one (vown 10 (ps_asg (vop op_add4 s_add (vn (pv 10)) (vlst (va (vtup (va (vcs pe_str) (va (vcs pe_str) va0))) (va (vtup (va (vcs pe_str) (va (vcs pe_str) va0))) va0)))) (pg_name (i := 10) sc_law.nd rfl (Or.inl rfl)))))) vs0)
  (vs_cons (vasg (.tp [11, 12]) (ps_asg (vix ix_seq s_ix (fun _ _ => rfl) (vn (pv 10)) (vcallW G_l_next hC (hr.mono (by decide)) passL (va (vn (pv 1)) (va (vcB call_lenA s_len B.len_ (va (vn (pv 10)) va0)) va0)))) (pg_tup rfl (pgs_cons (pg_name (i := 11) sc_law.nd rfl (Or.inl rfl)) (pgs_cons (pg_name (i := 12) sc_law.nd rfl (Or.inl rfl)) pgs_nil)))))
  (vs_cons (vif (vt_cmp (op_neD hr.units) s_ne (nomark _) (vcall G_l_refusal hr passL (va (vop op_add4 s_add (vn (pv 3)) (vlst (va (vn (pv 11)) va0))) va0)) (vtup (va (vn (pv 9)) (va (vn (pv 12)) va0)))) (vs_one (vret (vcb pe_bl))) vs0)
  (vs_cons (vif (vt_cmp (op_neD hr.units) s_ne (nomark _) (vcall G_l_refusal hr passL (va (vop op_add4 s_add (vlst (va (vop op_add4 s_add (vcs pe_str) (vop op_smul s_smul (vcs pe_str) (vci pe_int))) va0)) (vsl (vn (pv 3)) (vo1 (vci pe_int)) vo0)) va0)) (vtup (va (vci pe_int) (va (vcs pe_str) va0)))) (vs_one (vret (vcb pe_bl))) vs0)
  (vs_cons (vif (vt_cmp (op_neD hr.units) s_ne (nomark _) (vcall G_l_refusal hr passL (va (vlst (va (vcs pe_str) va0)) va0)) (vtup (va (vci pe_int) (va (vcs pe_str) va0)))) (vs_one (vret (vcb pe_bl))) vs0)
  (vs_cons (vif (vt_cmp (op_neD hr.units) s_ne (nomark _) (vcall G_l_refusal hr passL (va (vlst (va (vcs pe_str) (va (vcs pe_str) va0))) va0)) (vtup (va (vci pe_int) (va (vcs pe_str) va0)))) (vs_one (vret (vcb pe_bl))) vs0)
  (vs_one (vret (vcmp (op_eqD hr.units) s_eq (nomark _) (vcall G_l_refusal hr passL (va (vlst (va (vcs pe_str) (va (vcs pe_str) va0))) va0)) (vtup (va (vci pe_int) (va (vcs pe_str) va0))))))))))))))))))))))))))))

end
/-! ### the top's facts -/
section
def d_l_next : He.DefD := dOf "_law_next" s_l_next
def d_need : He.DefD := dOf "need" s_need
def d_need_book : He.DefD := dOf "need_book" s_need_book
def d_written : He.DefD := dOf "written" s_written
def d_is_number : He.DefD := dOf "is_number" s_is_number
def d_numbers_of : He.DefD := dOf "numbers_of" sx_numbers_of
def d_cash_of : He.DefD := dOf "cash_of" sx_cash_of
def d_claim_of : He.DefD := dOf "claim_of" sx_claim_of
def d_read : He.DefD := dOf "read" sx_read
def d_l_book : He.DefD := dOf "_law_book" s_l_book
def d_l_refusal : He.DefD := dOf "_law_refusal" s_l_refusal
def d_law : He.DefD := dOf "law" s_law
def d_e_BadBook : He.DefD := mOf "BadBook" "__init__" "BadBook.__init__" se_BadBook
def d_e_BadText : He.DefD := mOf "BadText" "__init__" "BadText.__init__" se_BadText
def fnL : List He.DefD := [d_l_next, d_need, d_need_book, d_written, d_is_number, d_numbers_of, d_cash_of, d_claim_of, d_read, d_l_book, d_l_refusal, d_law, d_e_BadBook, d_e_BadText]
def faL : List He.Fa := [.glo "_law_next", .glo "need", .glo "need_book", .glo "written", .glo "is_number", .glo "numbers_of", .glo "cash_of", .glo "claim_of", .glo "read", .glo "_law_book", .glo "_law_refusal", .glo "law", .int "MOST_HOUSES" 8, .int "MOST_COINS" 999, .int "MOST_CLAIMS" 24, .int "DEBTOR" 0, .int "CREDITOR" 1, .int "AMOUNT" 2, .int "RANK" 3, .int "MOST_RANK" 9, .int "MOST_FIGURES" 9, .str "FIGURES" "0123456789"] ++ bltN
abbrev RL : PySem.W.OpenRow := PySem.W.OpenLaw.row PySem.Challenge.rw_rankfall_k16_texts_refused
def xfL : List Xf := [.ox "BadBook", .ox "BadText", .tri "FallError" ["BadText", "BadBook"] ["BadPayments", "NoHouse", "NoMove", "BadText", "BadBook"], .fld "BadBook" "why", .fld "BadBook" "at", .fld "BadText" "row"]
abbrev hkL : PySem.W.Hook := hookX 4 faL fnL xfL
def obL (s : PySem.W.SharedT) : AlX := obsX 4 faL fnL xfL (HandSHeadRun.getT s)
theorem obL_eq (s : PySem.W.SharedT) : obL s = hkL.obs s.abs := obsX_eq (HandSHeadRun.getT_eq s)
def looseL : List Str := (["__name__", "FallError", "BadBook", "NoHouse", "BadPayments", "NoMove", "BadText", "MOST_HOUSES", "MOST_COINS", "MOST_CLAIMS", "MOST_RANK", "DEBTOR", "CREDITOR", "AMOUNT", "RANK", "need", "need_book", "FIGURES", "MOST_FIGURES", "written", "is_number", "numbers_of", "cash_of", "claim_of", "read", "_law_next", "_law_book", "_law_refusal"] : List Str)
theorem runL (w : World) : HandSHeadRun.RunEq RL (PySem.W.view RL.prog [31]) hkL obL 3000 looseL w := by
  intro os
  kernel_rfl
set_option maxHeartbeats 0 in
theorem factsL {P : Program} {w : World} {K : PySem.W.Frag} {h : Heap} {mg : Str → Option Value} {f : Addr} (X : K.In h) (G : h.Ns mainGlobals mg) (hfa : mg ("law" : Str) = some (.ref f)) (c : He.SaysD faL fnL K) (cx : ∀ f ∈ xfL, f.ok K = true) :
    ∃ fd : FuncData, (∀ (s : Shared) (v : Value), BindsTo s fd ⟨[v], []⟩ [("_law_script", v)]) ∧ ∀ base : Heap, K.In base → base.Ns mainGlobals mg → FnOk P w K mg base (L2.CX P w) 7 f fd ["_law_script"] (spLaw K) := by
  have T_l_next : FnT K mg "_law_next" s_l_next ["_law_h", "_law_many"] := fnTOf X G c 0 (x := "_law_next") (st := s_l_next) (ps := ["_law_h", "_law_many"]) rfl rfl fun _ _ _ _ _ _ us hl => match us, hl with | [_, _], _ => rfl
  have T_need : FnT K mg "need" s_need ["good", "at", "why"] := fnTOf X G c 1 (x := "need") (st := s_need) (ps := ["good", "at", "why"]) rfl rfl fun _ _ _ _ _ _ us hl => match us, hl with | [_, _, _], _ => rfl
  have T_need_book : FnT K mg "need_book" s_need_book ["book"] := fnTOf X G c 2 (x := "need_book") (st := s_need_book) (ps := ["book"]) rfl rfl fun _ _ _ _ _ _ us hl => match us, hl with | [_], _ => rfl
  have T_written : FnT K mg "written" s_written ["book"] := fnTOf X G c 3 (x := "written") (st := s_written) (ps := ["book"]) rfl rfl fun _ _ _ _ _ _ us hl => match us, hl with | [_], _ => rfl
  have T_is_number : FnT K mg "is_number" s_is_number ["word"] := fnTOf X G c 4 (x := "is_number") (st := s_is_number) (ps := ["word"]) rfl rfl fun _ _ _ _ _ _ us hl => match us, hl with | [_], _ => rfl
  have T_numbers_of : FnT K mg "numbers_of" sx_numbers_of ["words", "row"] := fnTOf X G c 5 (x := "numbers_of") (st := sx_numbers_of) (ps := ["words", "row"]) rfl rfl fun _ _ _ _ _ _ us hl => match us, hl with | [_, _], _ => rfl
  have T_cash_of : FnT K mg "cash_of" sx_cash_of ["row"] := fnTOf X G c 6 (x := "cash_of") (st := sx_cash_of) (ps := ["row"]) rfl rfl fun _ _ _ _ _ _ us hl => match us, hl with | [_], _ => rfl
  have T_claim_of : FnT K mg "claim_of" sx_claim_of ["row", "at"] := fnTOf X G c 7 (x := "claim_of") (st := sx_claim_of) (ps := ["row", "at"]) rfl rfl fun _ _ _ _ _ _ us hl => match us, hl with | [_, _], _ => rfl
  have T_read : FnT K mg "read" sx_read ["text"] := fnTOf X G c 8 (x := "read") (st := sx_read) (ps := ["text"]) rfl rfl fun _ _ _ _ _ _ us hl => match us, hl with | [_], _ => rfl
  have T_l_book : FnT K mg "_law_book" s_l_book ["_law_h", "_law_houses", "_law_claims", "_law_wide"] := fnTOf X G c 9 (x := "_law_book") (st := s_l_book) (ps := ["_law_h", "_law_houses", "_law_claims", "_law_wide"]) rfl rfl fun _ _ _ _ _ _ us hl => match us, hl with | [_, _, _, _], _ => rfl
  have T_l_refusal : FnT K mg "_law_refusal" s_l_refusal ["_law_rows"] := fnTOf X G c 10 (x := "_law_refusal") (st := s_l_refusal) (ps := ["_law_rows"]) rfl rfl fun _ _ _ _ _ _ us hl => match us, hl with | [_], _ => rfl
  obtain ⟨fd, F⟩ := c.def_ 11 (d := d_law) rfl
  have e := hfa.symm.trans (He.glo_ok X G (c.fact 11 (f := .glo "law") rfl))
  cases e
  have b := FunD.bindsA (ps := ["_law_script"]) F fun _ _ _ _ _ _ us hl => match us, hl with | [_], _ => rfl
  have C_MOST_HOUSES : ∃ t, mg "MOST_HOUSES" = some (.int 8 t) := He.int_ok X G (c.fact 12 rfl)
  have C_MOST_COINS : ∃ t, mg "MOST_COINS" = some (.int 999 t) := He.int_ok X G (c.fact 13 rfl)
  have C_MOST_CLAIMS : ∃ t, mg "MOST_CLAIMS" = some (.int 24 t) := He.int_ok X G (c.fact 14 rfl)
  have C_DEBTOR : ∃ t, mg "DEBTOR" = some (.int 0 t) := He.int_ok X G (c.fact 15 rfl)
  have C_CREDITOR : ∃ t, mg "CREDITOR" = some (.int 1 t) := He.int_ok X G (c.fact 16 rfl)
  have C_AMOUNT : ∃ t, mg "AMOUNT" = some (.int 2 t) := He.int_ok X G (c.fact 17 rfl)
  have C_RANK : ∃ t, mg "RANK" = some (.int 3 t) := He.int_ok X G (c.fact 18 rfl)
  have C_MOST_RANK : ∃ t, mg "MOST_RANK" = some (.int 9 t) := He.int_ok X G (c.fact 19 rfl)
  have C_MOST_FIGURES : ∃ t, mg "MOST_FIGURES" = some (.int 9 t) := He.int_ok X G (c.fact 20 rfl)
  have C_FIGURES : ∃ t, mg "FIGURES" = some (.str "0123456789" t) := He.str_ok X G (c.fact 21 rfl)
  have TK_l_refusal : TryK K mg "FallError" ["BadText", "BadBook"] ["BadPayments", "NoHouse", "NoMove", "BadText", "BadBook"] := tri_ok X G (cx (.tri "FallError" ["BadText", "BadBook"] ["BadPayments", "NoHouse", "NoMove", "BadText", "BadBook"]) (List.mem_of_getElem? (i := 2) rfl))
  have FL_BadBook_why : FldK K mg "BadBook" "why" := fld_ok X G (cx (.fld "BadBook" "why") (List.mem_of_getElem? (i := 3) rfl))
  have FL_BadBook_at : FldK K mg "BadBook" "at" := fld_ok X G (cx (.fld "BadBook" "at") (List.mem_of_getElem? (i := 4) rfl))
  have FL_BadText_row : FldK K mg "BadText" "row" := fld_ok X G (cx (.fld "BadText" "row") (List.mem_of_getElem? (i := 5) rfl))
  have B : Blt mg := bltOf X G c 22 rfl
  refine ⟨fd, fun s v => b s [v] rfl, fun base _ _ => ?_⟩
  have GE_BadBook : MkE P w K mg base "BadBook" 1 2 ["why", "at"] := we_BadBook (mkTEOf X G c 12 (st := se_BadBook) (ps := ["self", "at", "why"]) rfl (cx (.ox "BadBook") (List.mem_of_getElem? (i := 0) rfl)) fun _ _ _ _ _ _ us hl => match us, hl with | [_, _, _], _ => rfl) (fld_no (cx (.fld "BadBook" "at") (List.mem_of_getElem? (i := 4) rfl))) (fld_no (cx (.fld "BadBook" "why") (List.mem_of_getElem? (i := 3) rfl)))
  have GE_BadText : MkE P w K mg base "BadText" 1 1 ["row"] := we_BadText (mkTEOf X G c 13 (st := se_BadText) (ps := ["self", "row"]) rfl (cx (.ox "BadText") (List.mem_of_getElem? (i := 1) rfl)) fun _ _ _ _ _ _ us hl => match us, hl with | [_, _], _ => rfl) (fld_no (cx (.fld "BadText" "row") (List.mem_of_getElem? (i := 5) rfl)))
  have G_l_next : FnC P w K mg base "_law_next" 1 ["_law_h", "_law_many"] (spW 1 [] p_l_next) := w_l_next T_l_next B
  have G_need : FnC P w K mg base "need" 3 ["good", "at", "why"] (spD 3 [] p_need) := w_need T_need B 
  have G_x_need : FnC P w K mg base "need" 3 ["good", "at", "why"] (spX mg 3 [] p_x_need) := w_x_need T_need B GE_BadBook
  have G_need_book : FnC P w K mg base "need_book" 4 ["book"] (spD 1 [] p_need_book) := w_need_book T_need_book B G_need C_MOST_HOUSES C_MOST_COINS C_MOST_CLAIMS C_DEBTOR C_CREDITOR C_AMOUNT C_RANK C_MOST_RANK
  have G_x_need_book : FnC P w K mg base "need_book" 4 ["book"] (spX mg 1 [] p_x_need_book) := w_x_need_book T_need_book B G_x_need C_MOST_HOUSES C_MOST_COINS C_MOST_CLAIMS C_DEBTOR C_CREDITOR C_AMOUNT C_RANK C_MOST_RANK
  have G_written : FnC P w K mg base "written" 5 ["book"] (spD 1 [] p_written) := w_written T_written B G_need_book
  have G_is_number : FnC P w K mg base "is_number" 1 ["word"] (spD 1 [] p_is_number) := w_is_number T_is_number B C_MOST_FIGURES C_FIGURES
  have G_x_numbers_of : FnC P w K mg base "numbers_of" 3 ["words", "row"] (spX mg 2 [] p_x_numbers_of) := w_x_numbers_of T_numbers_of B G_is_number GE_BadText
  have G_x_cash_of : FnC P w K mg base "cash_of" 4 ["row"] (spX mg 1 [] p_x_cash_of) := w_x_cash_of T_cash_of B G_x_numbers_of GE_BadText
  have G_x_claim_of : FnC P w K mg base "claim_of" 4 ["row", "at"] (spX mg 2 [] p_x_claim_of) := w_x_claim_of T_claim_of B G_x_numbers_of GE_BadText
  have G_x_read : FnC P w K mg base "read" 5 ["text"] (spX mg 1 [] p_x_read) := w_x_read T_read B G_x_cash_of G_x_claim_of G_x_need_book
  have G_l_book : FnC P w K mg base "_law_book" 2 ["_law_h", "_law_houses", "_law_claims", "_law_wide"] (spW 3 [] p_l_book) := w_l_book T_l_book B G_l_next
  have G_l_refusal : FnC P w K mg base "_law_refusal" 6 ["_law_rows"] (spD 1 [] p_l_refusal) := w_l_refusal T_l_refusal B G_x_read FL_BadText_row FL_BadBook_why FL_BadBook_at TK_l_refusal
  exact w_law (funOf F) B G_l_book G_written G_l_next G_l_refusal
end
end VS
open PySem PySem.W PySem.Calls PyProof.Rows
set_option maxHeartbeats 0
theorem PySem.Challenge.cw_rankfall_k16_texts_refused_holds : PySem.Challenge.rw_rankfall_k16_texts_refused.Holds := by
  w_on; o_law
  refine HandSHeadRun.head_any (r := VS.RL) (q := view VS.RL.prog [31]) (H := VS.hkL) (ob := VS.obL) (M := 3000) (loose := VS.looseL) (d := HandSHeadRun.topDef VS.RL.prog 31) (kwd := []) VS.obL_eq
    (by kernel_rfl) (fun s => by kernel_rfl) VS.runL (by kernel_rfl) (by kernel_rfl) (by kernel_rfl) (by rfl) (by first | assumption | decide +kernel) (by decide +kernel) ⟨rfl, rfl, rfl, rfl, rfl, by decide +kernel⟩ ?hw ?hc
  case hw => w_witness2
  case hc =>
    refine VS.walkW (l := PySem.Challenge.rw_rankfall_k16_texts_refused) (n := 63) (k := 7) (x := "_law_script") rfl (by decide) (by kernel_rfl) ⟨rfl, by decide, by decide⟩ ?F
    intro w mg fa h Y G hmg0
    obtain ⟨K, KX, c, cx⟩ := Y
    have hmg : mg ("law" : PySem.Str) = some (.ref fa) := by
      have e : (HandSHeadRun.topDef VS.RL.prog 31).name = ("law" : PySem.Str) := by kernel_rfl
      rw [← e]
      exact hmg0
    obtain ⟨fd, hb, hF⟩ := VS.factsL (P := (PySem.Challenge.rw_rankfall_k16_texts_refused).prog) (w := w) KX G hmg c cx
    exact ⟨K, fd, VS.spLaw K, KX, hb, fun H a ns hl hS => ⟨a, ns, rfl, hS, hl, fun _ => rfl⟩, hF⟩

