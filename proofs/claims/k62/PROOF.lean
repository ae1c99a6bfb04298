import PyProof.Rows.All
import Wide.All
import OpenK.AllK
import Wide.FinOn
import HandS.ForMost
import HandS.ForExc
import HandS.Deep
import HandS.TupAny
import HandS.IsInst
import HandS.Conv
import HandS.Wide
import HandS.TupLe
import HandS.Style
import KE.KRevSl
import KE.DataEq
import KE.DataCmp
import KE.DataFind
import KE.DataAny
import KE.DataMinMax
import KE.DataIsa
import KE.SortData
import PyProof.Rows.SumAny
import HandS.Text
import HandS.Walk
import HandS.TupMul
import HandS.TryMany
import HandS.Words
import HandS.WordsExc
import HandS.Zip
import HandS.Ends
import HandS.TupSets
import KE.KDictPairs
import KE.KDictSum
import PySem.Challenge.RW_rigwright_k62_whole_known_laid_ropes
set_option Elab.async false
set_option linter.all false
set_option autoImplicit false
set_option maxRecDepth 100000
/-! PL0: tuples laid with their objects known (so that their methods are found) -/
namespace PL
open PySem PySem.Spec PyProof.Rows L2
/-- a tuple whose object has no dict of its own -/
def SqD (K : PySem.W.Frag) (H : Hp) (a : Addr) (xs : List V) : Prop :=
  (∃ o : Obj, H a = some (.frz o (.tup xs)) ∧ o.dict = none) ∨
    ∃ (o : Obj) (its : Array Value) (n : Nat), K.lookup a = some o ∧ o.cls = .type "tuple" ∧ o.dict = none ∧ o.data = .seq its n ∧ its.size ≤ sizeLine ∧ Vals xs its.toList
theorem SqD.sqT {K : PySem.W.Frag} {H : Hp} {a : Addr} {xs : List V} (h : SqD K H a xs) : SqT K H a xs := by
  rcases h with ⟨o, h, _⟩ | ⟨o, its, n, h1, h2, _, h3, h4, h5⟩
  · exact .inl (.inr ⟨o, h⟩)
  · exact .inr ⟨o, its, n, h1, h2, h3, h4, h5⟩
section
variable {X : Cx} {es : List Expr} {t : TA} {pos : Pos}
def tTupF (t : TA) : TE := fun σ H Q => t σ H fun xs H1 => xs.length ≤ sizeLine ∧ ∀ p o, H1 p = none → o.dict = none → Q (.ref p) (upd H1 p (.frz o (.tup xs)))
/-- the new tuple, laid -/
theorem laidF {pins : List (Addr × Obj)} {σ : L2.St} {H : Hp} {s : Shared} {us : List Value} {xs : List V} {t' : Nat} (I : Inv X pins σ H s) (z : xs.length ≤ sizeLine) (r : Vals xs us) :
    Inv X pins σ (upd H s.heap.objs.size (.frz { cls := .type "tuple", data := .seq us.toArray } (.tup xs))) { s with heap := s.heap.push { cls := .type "tuple", data := .seq us.toArray }, toks := t' } :=
  I.laid (t' := t') (fun b u e => Heap.get?_push_of_some _ e) (Nat.le_refl _) ⟨Heap.get?_push_size _ rfl, z, us, r, IsTup.new _ _⟩
theorem pe_tupF {x1} (h : PA X es t) : PE X (.Tuple es x1 pos) (tTupF t) := by
  refine ⟨fun pins s σ H Q I hq => ?_⟩
  refine wpAny_Tuple_spliced (thn (h.run pos pins s σ H _ I hq) fun us s1 ⟨xs, H1, I1, r, z, q⟩ => ⟨by rw [← r.length]; exact z, ?_⟩)
  exact ⟨.ref s1.heap.objs.size, _, laidF (t' := s1.toks) I1 z r, rfl, q _ _ (I1.hok.fresh (Nat.le_refl _)) rfl⟩
/-- t + u -/
def rCatF (K : PySem.W.Frag) : R2 := fun x y H Q => ∃ a b xs ys, x = .ref a ∧ y = .ref b ∧ SqT K H a xs ∧ SqT K H b ys ∧ xs.length + ys.length ≤ sizeLine ∧
  (xs = [] → Q (.ref b) H) ∧ (xs ≠ [] → ys = [] → Q (.ref a) H) ∧ (xs ≠ [] → ys ≠ [] → ∀ p o, H p = none → o.dict = none → Q (.ref p) (upd H p (.frz o (.tup (xs ++ ys)))))
theorem op_catF : OpR X (binaryOp .Add) (rCatF X.K) := by
  intro pins s σ H x y v u Q I rx ry h
  obtain ⟨a, b, xs, ys, rfl, rfl, ha, hb, hz, q0, q1, q2⟩ := h
  cases rx
  cases ry
  obtain ⟨its, r1, p1, _⟩ := I.tuple ha
  obtain ⟨its2, r2, p2, _⟩ := I.tuple hb
  by_cases hx : xs = []
  · subst hx
    cases r1
    exact cat_tup0 p1 p2 ⟨.ref b, H, I, rfl, q0 rfl⟩
  · refine HT.cat_tup p1 p2 (fun z => hx (r1.nil_iff.mp z)) (fun z => ⟨.ref a, H, I, rfl, q1 hx (r2.nil_iff.mp z)⟩) (fun z => ?_) (by rw [← r1.length, ← r2.length]; exact hz)
    exact ⟨.ref s.heap.objs.size, _, laidF (t' := s.toks) I (by rw [List.length_append]; exact hz) (r1.append r2), rfl, q2 hx (fun w => z (r2.nil_iff.mpr w)) _ _ (I.hok.fresh (Nat.le_refl _)) rfl⟩
/-- t[lo:hi] -/
def rSlF (K : PySem.W.Frag) : V → Option Int → Option Int → Hp → VK → Prop := fun x lo hi H Q => ∃ a xs, x = .ref a ∧ SqT K H a xs ∧
  (HT.sIx xs.length 0 lo = 0 ∧ HT.sIx xs.length xs.length hi = xs.length → Q (.ref a) H) ∧ (¬ (HT.sIx xs.length 0 lo = 0 ∧ HT.sIx xs.length xs.length hi = xs.length) → ∀ p o, H p = none → o.dict = none → Q (.ref p) (upd H p (.frz o (.tup (cutV xs lo hi)))))
theorem sl_tupF : SlR X (rSlF X.K) := by
  intro pins s σ H x v vl vu lo hi sl Q I rx hs pl pu h
  obtain ⟨a, xs, rfl, hx, q1, q2⟩ := h
  cases rx
  obtain ⟨its, r, ht, hz⟩ := I.tuple hx
  have hlen : its.toArray.size = xs.length := by rw [List.size_toArray]; exact r.length.symm
  refine ⟨"tuple", _, PyProof.Rows.slot_tuple_getitem.lookup, ht.typeIs, ?_⟩
  by_cases hw : HT.sIx xs.length 0 lo = 0 ∧ HT.sIx xs.length xs.length hi = xs.length
  · exact getItem_tuple_whole ht hs pl pu (by rw [hlen]; exact hw) ⟨.ref a, H, I, rfl, q1 hw⟩
  · refine HT.getItem_tuple_cut ht hs pl pu (by rw [hlen]; exact hw) ?_ (by rw [hlen]; exact hz)
    rw [hlen]
    exact ⟨.ref s.heap.objs.size, _, laidF (t' := s.toks) I (Nat.le_trans (cutV_length xs lo hi) hz) ((r.drop (HT.sIx xs.length 0 lo)).take (HT.sIx xs.length xs.length hi - HT.sIx xs.length 0 lo)), rfl, q2 hw _ _ (I.hok.fresh (Nat.le_refl _)) rfl⟩
/-- tuple(l), tuple(t) -/
theorem call_tupleF : CallR X (.type "tuple") (fun xs H Q => ∃ p ys, xs = [.ref p] ∧ ((SqL X.K H p ys ∧ ∀ l o, H l = none → o.dict = none → Q (.ref l) (upd H l (.frz o (.tup ys)))) ∨ (SqT X.K H p ys ∧ Q (.ref p) H))) := by
  intro pins s σ H xs us Q I r h
  obtain ⟨p, ys, rfl, h⟩ := h
  obtain ⟨u, rfl, rx⟩ := vals1 r
  cases rx
  rcases h with ⟨hq, q⟩ | ⟨hq, q⟩
  · obtain ⟨its, r', pl, hz⟩ := I.list hq
    have hlen := r'.length
    refine call_tuple_list pl.isList (fun h' kp => ?_) (by simp only [List.size_toArray] <;> omega)
    have I1 : Inv X pins σ H { s with heap := h' } := I.kept (t' := s.toks) kp
    exact ⟨.ref h'.objs.size, _, laidF (t' := s.toks) I1 hz r', rfl, q _ _ (I1.hok.fresh (Nat.le_refl _)) rfl⟩
  · obtain ⟨its, r', pl, hz⟩ := I.tuple hq
    exact call_tuple_same pl ⟨.ref p, H, I, rfl, q⟩
end
end PL

set_option Elab.async false
set_option linter.all false
set_option autoImplicit false
set_option maxRecDepth 100000
/-! PL1: pure data over the hand layer: what stands for what, environments, expressions -/
namespace PL
open PySem PySem.Spec PyProof.Rows L2

abbrev D := PyData
inductive R (α : Type) where
  | ok (a : α) | exc (c : Str) | bad
@[simp] def R.bind {α β : Type} : R α → (α → R β) → R β
  | .ok a, f => f a
  | .exc c, _ => .exc c
  | .bad, _ => .bad
@[simp] def R.nox {α : Type} : R α → R α
  | .ok a => .ok a
  | _ => .bad

noncomputable def cut (Z : Addr → Prop) (H : Hp) : Hp := fun a => open Classical in if Z a then none else H a
theorem cut_some {Z : Addr → Prop} {H : Hp} {a : Addr} {o : HO} : cut Z H a = some o ↔ (¬ Z a ∧ H a = some o) := by
  unfold cut
  by_cases h : Z a
  · rw [if_pos h]; exact ⟨fun e => (nomatch e), fun e => absurd h e.1⟩
  · rw [if_neg h]; exact ⟨fun e => ⟨h, e⟩, fun e => e.2⟩
theorem cut_none {H : Hp} : cut (fun _ => False) H = H := by
  funext a; unfold cut; exact if_neg (fun h => h)
theorem Same.cut {Z : Addr → Prop} {H H' : Hp} (h : Same H H') : Same (cut Z H) (cut Z H') := fun a o e => by
  rw [cut_some] at e ⊢; exact ⟨e.1, h a o e.2⟩
theorem Same.cutLe {Z Z' : Addr → Prop} {H : Hp} (h : ∀ a, Z' a → Z a) : Same (PL.cut Z H) (PL.cut Z' H) := fun a o e => by
  rw [cut_some] at e ⊢; exact ⟨fun z => e.1 (h a z), e.2⟩
theorem Same.uncut {Z : Addr → Prop} {H : Hp} : Same (PL.cut Z H) H := fun a o e => (cut_some.mp e).2
theorem Same.new {H : Hp} {p : Addr} {o : HO} (h : H p = none) : Same H (upd H p o) := fun a u e => by
  rw [upd_ne (ne_of_none e h)]; exact e

/-- a tuple that is read -/
theorem Rd.same {H H' : Hp} {a : Addr} {u : HO} (h : Rd H a u) (s : Same H H') : Rd H' a u := by
  rcases h with h | ⟨o, h⟩
  · exact .inl (s _ _ h)
  · exact .inr ⟨o, s _ _ h⟩
theorem SqT.same {K : PySem.W.Frag} {H H' : Hp} {a : Addr} {xs : List V} (h : SqT K H a xs) (s : Same H H') : SqT K H' a xs := by
  rcases h with h | h
  · exact .inl (Rd.same h s)
  · exact .inr h
theorem SqD.same {K : PySem.W.Frag} {H H' : Hp} {a : Addr} {xs : List V} (h : SqD K H a xs) (s : Same H H') : SqD K H' a xs := by
  rcases h with ⟨o, h, d⟩ | h
  · exact .inl ⟨o, s _ _ h, d⟩
  · exact .inr h
theorem SqL.same {K : PySem.W.Frag} {H H' : Hp} {a : Addr} {xs : List V} (h : SqL K H a xs) (s : Same H H') : SqL K H' a xs := s.seq h

/-- a dict's key as a datum -/
def keyD : Key → D
  | .inl i => .int i
  | .inr x => .str x
mutual
inductive Rp (K : PySem.W.Frag) (H : Hp) : V → D → Prop
  | non : Rp K H .non .none
  | bl (b : Bool) : Rp K H (.bl b) (.bool b)
  | int (i : Int) : Rp K H (.int i) (.int i)
  | str (x : Str) : Rp K H (.str x) (.str x)
  | lst {a : Addr} {xs : List V} {ds : List D} : H a = some (.lst xs) → RpA K H xs ds → Rp K H (.ref a) (.list ds)
  | tup {a : Addr} {xs : List V} {ds : List D} : SqD K H a xs → RpA K H xs ds → Rp K H (.ref a) (.tuple ds)
  | dct {a : Addr} {o : Obj} {kvs : List (Key × V)} {ds : List (D × D)} : H a = some (.frz o (.dK kvs)) → RpK K H kvs ds → Rp K H (.ref a) (.dict ds)
inductive RpA (K : PySem.W.Frag) (H : Hp) : List V → List D → Prop
  | nil : RpA K H [] []
  | cons {v : V} {vs : List V} {d : D} {ds : List D} : Rp K H v d → RpA K H vs ds → RpA K H (v :: vs) (d :: ds)
inductive RpK (K : PySem.W.Frag) (H : Hp) : List (Key × V) → List (D × D) → Prop
  | nil : RpK K H [] []
  | cons {k : Key} {v : V} {kvs : List (Key × V)} {d : D} {ds : List (D × D)} : Rp K H v d → RpK K H kvs ds → RpK K H ((k, v) :: kvs) ((keyD k, d) :: ds)
end
section
variable {K : PySem.W.Frag} {H H' : Hp}
mutual
theorem Rp.mono (s : Same H H') {d : D} {v : V} : Rp K H v d → Rp K H' v d
  | .non => .non
  | .bl b => .bl b
  | .int i => .int i
  | .str x => .str x
  | .lst h1 h2 => .lst (s _ _ h1) (RpA.mono s h2)
  | .tup h1 h2 => .tup (SqD.same h1 s) (RpA.mono s h2)
  | .dct h1 h2 => .dct (s _ _ h1) (RpK.mono s h2)
theorem RpA.mono (s : Same H H') {ds : List D} {vs : List V} : RpA K H vs ds → RpA K H' vs ds
  | .nil => .nil
  | .cons h1 h2 => .cons (Rp.mono s h1) (RpA.mono s h2)
theorem RpK.mono (s : Same H H') {ds : List (D × D)} {vs : List (Key × V)} : RpK K H vs ds → RpK K H' vs ds
  | .nil => .nil
  | .cons h1 h2 => .cons (Rp.mono s h1) (RpK.mono s h2)
end
theorem Rp.up (s : Same H H') {v : V} {d : D} (h : Rp K H v d) : Rp K H' v d := Rp.mono s h
theorem RpA.up (s : Same H H') {vs : List V} {ds : List D} (h : RpA K H vs ds) : RpA K H' vs ds := RpA.mono s h
theorem RpK.up (s : Same H H') {vs : List (Key × V)} {ds : List (D × D)} (h : RpK K H vs ds) : RpK K H' vs ds := RpK.mono s h
mutual
theorem Rp.dp {d : D} {v : V} : Rp K H v d → d.plain = true → Dp K H v d
  | .non, _ => .non
  | .bl b, _ => .bl b
  | .int i, _ => .int i
  | .str x, _ => .str x
  | .lst h1 h2, p => .lst (SqL.of h1) (RpA.dp h2 (by simpa only [PyData.plain] using p))
  | .tup h1 h2, p => .tup h1.sqT (RpA.dp h2 (by simpa only [PyData.plain] using p))
  | .dct _ _, p => by simp [PyData.plain] at p
theorem RpA.dp {ds : List D} {vs : List V} : RpA K H vs ds → PyData.plainAll ds = true → DpAll K H vs ds
  | .nil, _ => .nil
  | .cons h1 h2, p => .cons (Rp.dp h1 (by simp only [PyData.plainAll, Bool.and_eq_true] at p; exact p.1)) (RpA.dp h2 (by simp only [PyData.plainAll, Bool.and_eq_true] at p; exact p.2))
end
theorem Rp.toDp {v : V} {d : D} (h : Rp K H v d) (p : d.plain = true) : Dp K H v d := Rp.dp h p
theorem RpA.length : ∀ {ds : List D} {vs : List V}, RpA K H vs ds → vs.length = ds.length
  | [], _, h => by cases h; rfl
  | d :: ds, _, h => by
    cases h with
    | cons _ h2 => simp [RpA.length h2]
theorem RpA.get : ∀ {ds : List D} {vs : List V} {i : Nat} {d : D}, RpA K H vs ds → ds[i]? = some d → ∃ v, vs[i]? = some v ∧ Rp K H v d
  | [], _, _, _, _, e => by simp at e
  | d :: ds, _, 0, _, h, e => by
    cases h with
    | cons h1 _ => simp at e; subst e; exact ⟨_, rfl, h1⟩
  | d :: ds, _, i + 1, e, h, q => by
    cases h with
    | cons _ h2 =>
      obtain ⟨v, a, b⟩ := RpA.get (i := i) h2 (by simpa using q)
      exact ⟨v, by simpa using a, b⟩
theorem RpA.getV : ∀ {ds : List D} {vs : List V} {i : Nat} {v : V}, RpA K H vs ds → vs[i]? = some v → ∃ d, ds[i]? = some d ∧ Rp K H v d
  | [], _, _, _, h, e => by cases h; simp at e
  | d :: ds, _, 0, _, h, e => by
    cases h with
    | cons h1 _ => simp at e; subst e; exact ⟨_, rfl, h1⟩
  | d :: ds, _, i + 1, e, h, q => by
    cases h with
    | cons _ h2 =>
      obtain ⟨v, a, b⟩ := RpA.getV (i := i) h2 (by simpa using q)
      exact ⟨v, by simpa using a, b⟩
theorem RpA.append : ∀ {ds es : List D} {vs us : List V}, RpA K H vs ds → RpA K H us es → RpA K H (vs ++ us) (ds ++ es)
  | [], _, _, _, h, g => by cases h; exact g
  | d :: ds, _, _, _, h, g => by
    cases h with
    | cons h1 h2 => exact .cons h1 (RpA.append h2 g)
theorem RpA.drop : ∀ {ds : List D} {vs : List V} (n : Nat), RpA K H vs ds → RpA K H (vs.drop n) (ds.drop n)
  | _, _, 0, h => h
  | [], _, n + 1, h => by cases h; exact .nil
  | d :: ds, _, n + 1, h => by
    cases h with
    | cons _ h2 => exact RpA.drop n h2
theorem RpA.take : ∀ {ds : List D} {vs : List V} (n : Nat), RpA K H vs ds → RpA K H (vs.take n) (ds.take n)
  | _, _, 0, h => .nil
  | [], _, n + 1, h => by cases h; exact .nil
  | d :: ds, _, n + 1, h => by
    cases h with
    | cons h1 h2 => exact .cons h1 (RpA.take n h2)
theorem RpA.set : ∀ {ds : List D} {vs : List V} {d : D} {v : V} (n : Nat), RpA K H vs ds → Rp K H v d → RpA K H (vs.set n v) (ds.set n d)
  | [], _, _, _, _, h, _ => by cases h; exact .nil
  | d :: ds, _, _, _, 0, h, g => by
    cases h with
    | cons _ h2 => exact .cons g h2
  | d :: ds, _, _, _, n + 1, h, g => by
    cases h with
    | cons h1 h2 => exact .cons h1 (RpA.set n h2 g)
theorem RpA.rev : ∀ {ds : List D} {vs : List V}, RpA K H vs ds → RpA K H vs.reverse ds.reverse
  | [], _, h => by cases h; exact .nil
  | d :: ds, _, h => by
    cases h with
    | cons h1 h2 => rw [List.reverse_cons, List.reverse_cons]; exact (RpA.rev h2).append (.cons h1 .nil)
theorem RpA.rep {ds : List D} {vs : List V} (h : RpA K H vs ds) : ∀ k : Nat, RpA K H (List.replicate k vs).flatten (List.replicate k ds).flatten
  | 0 => .nil
  | k + 1 => by rw [List.replicate_succ, List.replicate_succ, List.flatten_cons, List.flatten_cons]; exact h.append (RpA.rep h k)
theorem RpA.ints : ∀ {ns : List Int} {vs : List V}, RpA K H vs (ns.map PyData.int) → vs = ns.map V.int
  | [], _, h => by cases h; rfl
  | n :: ns, _, h => by
    cases h with
    | cons h1 h2 => cases h1; rw [RpA.ints h2]; rfl
theorem RpA.ofInts : ∀ (ns : List Int), RpA K H (ns.map V.int) (ns.map PyData.int)
  | [] => .nil
  | n :: ns => .cons (.int n) (RpA.ofInts ns)
theorem RpA.bools : ∀ {ns : List Bool} {vs : List V}, RpA K H vs (ns.map PyData.bool) → vs = ns.map V.bl
  | [], _, h => by cases h; rfl
  | n :: ns, _, h => by
    cases h with
    | cons h1 h2 => cases h1; rw [RpA.bools h2]; rfl
end

/-! ### environments -/
inductive Own where
  | lst (ds : List D) | dct (ds : List (D × D))
inductive Sl where
  | no | val (d : D) | own (o : Own) | raw (ns : List Int)
abbrev Env := List Sl
/-- what an owned thing is: at a of H, its parts by H' -/
def OwnAt (K : PySem.W.Frag) (H' H : Hp) (a : Addr) : Own → Prop
  | .lst ds => ∃ xs, H a = some (.lst xs) ∧ RpA K H' xs ds
  | .dct ds => ∃ kvs, H a = some (.dK kvs) ∧ RpK K H' kvs ds
theorem OwnAt.up {K : PySem.W.Frag} {H H' G G' : Hp} {a : Addr} {o : Own} (h : OwnAt K G H a o) (s : Same G G') (s' : Same H H') : OwnAt K G' H' a o := by
  cases o with
  | lst ds => obtain ⟨xs, h1, h2⟩ := h; exact ⟨xs, s' _ _ h1, h2.up s⟩
  | dct ds => obtain ⟨xs, h1, h2⟩ := h; exact ⟨xs, s' _ _ h1, h2.up s⟩
theorem OwnAt.there {K : PySem.W.Frag} {H G : Hp} {a : Addr} {o : Own} (h : OwnAt K G H a o) : ∃ u, H a = some u := by
  cases o with
  | lst ds => obtain ⟨xs, h1, h2⟩ := h; exact ⟨_, h1⟩
  | dct ds => obtain ⟨xs, h1, h2⟩ := h; exact ⟨_, h1⟩
def ZD (Z : Addr → Prop) (H : Hp) : Prop := ∀ a, Z a → ∃ o, H a = some o
theorem ZD.up {Z : Addr → Prop} {H H' : Hp} (z : ZD Z H) (s : Same H H') : ZD Z H' := fun a h => let ⟨o, e⟩ := z a h; ⟨o, s a o e⟩
theorem ZD.fresh {Z : Addr → Prop} {H : Hp} {p : Addr} (z : ZD Z H) (h : H p = none) : ¬ Z p := fun q => by
  obtain ⟨o, e⟩ := z p q; rw [h] at e; cases e
structure EOk (K : PySem.W.Frag) (Z : Addr → Prop) (H : Hp) (σ : L2.St) (ρ : Env) : Prop where
  len : σ.length = ρ.length
  zd : ZD Z H
  val : ∀ (i : Nat) (d : D), ρ[i]? = some (.val d) → ∃ v, σ[i]? = some (some v) ∧ Rp K (cut Z H) v d
  raw : ∀ (i : Nat) (ns : List Int), ρ[i]? = some (.raw ns) → ∃ a, σ[i]? = some (some (.ref a)) ∧ SqL K (cut Z H) a (ns.map V.int)
  own : ∀ (i : Nat) (o : Own), ρ[i]? = some (.own o) → ∃ a, σ[i]? = some (some (.ref a)) ∧ OwnAt K (cut Z H) H a o
theorem EOk.up {K : PySem.W.Frag} {Z : Addr → Prop} {H H' : Hp} {σ : L2.St} {ρ : Env} (e : EOk K Z H σ ρ) (s : Same H H') : EOk K Z H' σ ρ :=
  ⟨e.len, e.zd.up s, fun i d h => let ⟨v, a, b⟩ := e.val i d h; ⟨v, a, b.up (Same.cut s)⟩, fun i ns h => let ⟨a, b, c⟩ := e.raw i ns h; ⟨a, b, SqL.same c (Same.cut s)⟩, fun i o h => let ⟨a, b, c⟩ := e.own i o h; ⟨a, b, c.up (Same.cut s) s⟩⟩

/-- what is wanted behind an expression -/
def PoE (K : PySem.W.Frag) (mg : Str → Option Value) (W : WX) (Z : Addr → Prop) (σ : L2.St) (H : Hp) (Q : VK) : R D → Prop
  | .ok d => ∀ v H', Same H H' → Rp K (cut Z H') v d → Q v H'
  | .exc c => ∀ H' C, Same H H' → mg c = some (.ref C) → W (.ref C) none σ H'
  | .bad => False
/-- of a new list -/
def PoN (K : PySem.W.Frag) (mg : Str → Option Value) (W : WX) (Z : Addr → Prop) (σ : L2.St) (H : Hp) (Q : VK) : R (List D) → Prop
  | .ok ds => ∀ p xs H', Same H H' → H p = none → H' p = some (.lst xs) → RpA K (cut (fun a => Z a ∨ a = p) H') xs ds → Q (.ref p) H'
  | .exc c => ∀ H' C, Same H H' → mg c = some (.ref C) → W (.ref C) none σ H'
  | .bad => False
def PoA (K : PySem.W.Frag) (mg : Str → Option Value) (W : WX) (Z : Addr → Prop) (σ : L2.St) (H : Hp) (Q : List V → Hp → Prop) : R (List D) → Prop
  | .ok ds => ∀ vs H', Same H H' → RpA K (cut Z H') vs ds → Q vs H'
  | .exc c => ∀ H' C, Same H H' → mg c = some (.ref C) → W (.ref C) none σ H'
  | .bad => False
def PoB (K : PySem.W.Frag) (mg : Str → Option Value) (W : WX) (Z : Addr → Prop) (σ : L2.St) (H : Hp) (Q : Bool → Hp → Prop) : R Bool → Prop
  | .ok b => ∀ H', Same H H' → Q b H'
  | .exc c => ∀ H' C, Same H H' → mg c = some (.ref C) → W (.ref C) none σ H'
  | .bad => False
def tF (K : PySem.W.Frag) (mg : Str → Option Value) (W : WX) (f : Env → R D) : TE := fun σ H Q => ∃ Z ρ, EOk K Z H σ ρ ∧ PoE K mg W Z σ H Q (f ρ)
def tN (K : PySem.W.Frag) (mg : Str → Option Value) (W : WX) (f : Env → R (List D)) : TE := fun σ H Q => ∃ Z ρ, EOk K Z H σ ρ ∧ PoN K mg W Z σ H Q (f ρ)
def tA (K : PySem.W.Frag) (mg : Str → Option Value) (W : WX) (f : Env → R (List D)) : TA := fun σ H Q => ∃ Z ρ, EOk K Z H σ ρ ∧ PoA K mg W Z σ H Q (f ρ)
def tT (K : PySem.W.Frag) (mg : Str → Option Value) (W : WX) (f : Env → R Bool) : TT := fun σ H Q => ∃ Z ρ, EOk K Z H σ ρ ∧ PoB K mg W Z σ H Q (f ρ)

section
variable {X : Cx} {W : WX} {K : PySem.W.Frag} {mg : Str → Option Value} {Z : Addr → Prop} {σ : L2.St} {H H' : Hp}
theorem PoE.exc {Q : VK} {Q' : VK} {c : Str} (h : PoE K mg W Z σ H Q (.exc c)) (s : Same H H') : PoE K mg W Z σ H' Q' (.exc c) := fun H1 C s1 m => h H1 C (s.trans s1) m

structure FE (X : Cx) (W : WX) (e : Expr) (f : Env → R D) : Prop where
  pe : PE X e (tF X.K X.mg W f)
structure FN (X : Cx) (W : WX) (e : Expr) (f : Env → R (List D)) : Prop where
  pe : PE X e (tN X.K X.mg W f)
structure FA (X : Cx) (W : WX) (es : List Expr) (f : Env → R (List D)) : Prop where
  pa : PA X es (tA X.K X.mg W f)
structure FT (X : Cx) (W : WX) (e : Expr) (f : Env → R Bool) : Prop where
  pt : PT X e (tT X.K X.mg W f)
structure FW (X : Cx) (W : WX) (e : Expr) (f : Env → R Bool) : Prop where
  pw : PW X e (tT X.K X.mg W f)
theorem FW.ft {e : Expr} {f : Env → R Bool} (h : FW X W e f) : FT X W e f := ⟨h.pw.pt⟩

theorem PE.imp {e : Expr} {t t' : TE} (h : PE X e t) (i : ∀ σ H Q, t' σ H Q → t σ H Q) : PE X e t' := ⟨fun pins s σ H Q I q => h.run pins s σ H Q I (i σ H Q q)⟩
theorem PA.imp {e : List Expr} {t t' : TA} (h : PA X e t) (i : ∀ σ H Q, t' σ H Q → t σ H Q) : PA X e t' := ⟨fun pos pins s σ H Q I q => h.run pos pins s σ H Q I (i σ H Q q)⟩
theorem PT.imp {e : Expr} {t t' : TT} (h : PT X e t) (i : ∀ σ H Q, t' σ H Q → t σ H Q) : PT X e t' := ⟨fun pins s σ H Q I q => h.run pins s σ H Q I (i σ H Q q)⟩
theorem PW.imp {e : Expr} {t t' : TT} (h : PW X e t) (i : ∀ σ H Q, t' σ H Q → t σ H Q) : PW X e t' := ⟨fun wh pins s σ H Q I q => h.run wh pins s σ H Q I (i σ H Q q)⟩

/-- a new list as a value -/
def sLst (f : Env → R (List D)) : Env → R D := fun ρ => (f ρ).bind fun ds => .ok (.list ds)
theorem FN.fe {e : Expr} {f : Env → R (List D)} (h : FN X W e f) : FE X W e (sLst f) := ⟨PE.imp h.pe fun σ H Q ⟨Z, ρ, e, q⟩ => by
  refine ⟨Z, ρ, e, ?_⟩
  unfold sLst at q
  cases r : f ρ with
  | ok ds =>
    rw [r] at q
    intro p xs H' s n l a
    exact q _ _ s (.lst (cut_some.mpr ⟨e.zd.fresh n, l⟩) (a.up (Same.cutLe fun b z => .inl z)))
  | exc c => rw [r] at q; exact q
  | bad => rw [r] at q; exact q⟩

/-! ### names, constants -/
@[simp] def sVar (i : Nat) : Env → R D := fun ρ => match ρ.getD i .no with
  | .val d => .ok d
  | _ => .bad
@[simp] def sCst (d : D) : Env → R D := fun _ => .ok d
theorem getD_val {ρ : Env} {i : Nat} {d : D} (h : ρ.getD i .no = .val d) : ρ[i]? = some (.val d) := by
  rw [List.getD_eq_getElem?_getD] at h
  cases e : ρ[i]? with
  | none => rw [e] at h; cases h
  | some s => rw [e] at h; exact congrArg some h
theorem fe_var (i : Nat) {x : Str} {pos : Pos} (hN : X.N[i]? = some x := by rfl) (hv : Vis X.env.scope x := by first | exact Or.inl rfl | exact Or.inr (Or.inl rfl) | exact Or.inr (Or.inr rfl))
    (hd : (x == ("__debug__" : Str)) = false := by decide) (hcd : (x == ("__classdict__" : Str)) = false := by decide) : FE X W (.Name x pos) (sVar i) :=
  ⟨PE.imp (pe_var hN hv hd hcd) fun σ H Q ⟨Z, ρ, e, q⟩ => by
    unfold sVar at q
    split at q
    · next d hd =>
      obtain ⟨v, a, b⟩ := e.val i d (getD_val hd)
      exact ⟨v, a, q v H (Same.refl H) b⟩
    · exact q.elim⟩
theorem fe_int {i j pos} : FE X W (.Constant (.int i) j pos) (sCst (.int i)) := ⟨PE.imp pe_int fun _ H _ ⟨_, _, _, q⟩ => q _ H (Same.refl H) (.int i)⟩
theorem fe_bl {b j pos} : FE X W (.Constant (.bool b) j pos) (sCst (.bool b)) := ⟨PE.imp pe_bl fun _ H _ ⟨_, _, _, q⟩ => q _ H (Same.refl H) (.bl b)⟩
theorem fe_non {j pos} : FE X W (.Constant .none j pos) (sCst .none) := ⟨PE.imp pe_non fun _ H _ ⟨_, _, _, q⟩ => q _ H (Same.refl H) .non⟩
theorem fe_str {x j pos} : FE X W (.Constant (.str x) j pos) (sCst (.str x)) := ⟨PE.imp pe_str fun _ H _ ⟨_, _, _, q⟩ => q _ H (Same.refl H) (.str x)⟩
/-- a module's constant: an int, a text -/
theorem fe_gint {x : Str} {i : Int} {t : Tok} {pos : Pos} (hg : Gl X x) (hm : X.mg x = some (.int i t)) (hd : (x == ("__debug__" : Str)) = false := by decide) : FE X W (.Name x pos) (sCst (.int i)) :=
  ⟨PE.imp (pe_glob (v := .int i) hg hm ⟨t, rfl⟩ hd) fun _ H _ ⟨_, _, _, q⟩ => q _ H (Same.refl H) (.int i)⟩
theorem fe_gstr {x y : Str} {t : Tok} {pos : Pos} (hg : Gl X x) (hm : X.mg x = some (.str y t)) (hd : (x == ("__debug__" : Str)) = false := by decide) : FE X W (.Name x pos) (sCst (.str y)) :=
  ⟨PE.imp (pe_glob (v := .str y) hg hm ⟨t, rfl⟩ hd) fun _ H _ ⟨_, _, _, q⟩ => q _ H (Same.refl H) (.str y)⟩

/-! ### two expressions in a row -/
theorem PoE.ofBind {α : Type} {Q : VK} {r : R α} {k : α → R D} (h : PoE K mg W Z σ H Q (r.bind k)) : (∃ a, r = .ok a ∧ PoE K mg W Z σ H Q (k a)) ∨ ∃ c, r = .exc c ∧ PoE K mg W Z σ H Q (.exc c) := by
  cases r with
  | ok a => exact .inl ⟨a, rfl, h⟩
  | exc c => exact .inr ⟨c, rfl, h⟩
  | bad => exact h.elim
theorem PoE.up {Q : VK} {r : R D} (h : PoE K mg W Z σ H Q r) (s : Same H H') : PoE K mg W Z σ H' Q r := by
  cases r with
  | ok d => exact fun v H1 s1 q => h v H1 (s.trans s1) q
  | exc c => exact fun H1 C s1 m => h H1 C (s.trans s1) m
  | bad => exact h
theorem PoA.up {Q : List V → Hp → Prop} {r : R (List D)} (h : PoA K mg W Z σ H Q r) (s : Same H H') : PoA K mg W Z σ H' Q r := by
  cases r with
  | ok d => exact fun v H1 s1 q => h v H1 (s.trans s1) q
  | exc c => exact fun H1 C s1 m => h H1 C (s.trans s1) m
  | bad => exact h
theorem PoB.up {Q : Bool → Hp → Prop} {r : R Bool} (h : PoB K mg W Z σ H Q r) (s : Same H H') : PoB K mg W Z σ H' Q r := by
  cases r with
  | ok d => exact fun H1 s1 => h H1 (s.trans s1)
  | exc c => exact fun H1 C s1 m => h H1 C (s.trans s1) m
  | bad => exact h
theorem PoN.up {Q : VK} {r : R (List D)} (h : PoN K mg W Z σ H Q r) (s : Same H H') : PoN K mg W Z σ H' Q r := by
  cases r with
  | ok d => exact fun p xs H1 s1 n l a => h p xs H1 (s.trans s1) (s.free n) l a
  | exc c => exact fun H1 C s1 m => h H1 C (s.trans s1) m
  | bad => exact h
/-- an exception is passed on -/
theorem exc_any {c : Str} {Q : VK} {Q' : VK} (h : PoE K mg W Z σ H Q (.exc c)) : PoE K mg W Z σ H Q' (.exc c) := h

/-- the reading of one expression ahead of what follows -/
theorem tF.first {f : Env → R D} {ρ : Env} {Q : VK} {k : D → R D} {t : V → Hp → Prop} (e : EOk K Z H σ ρ) (q : PoE K mg W Z σ H Q ((f ρ).bind k))
    (go : ∀ d, f ρ = .ok d → PoE K mg W Z σ H Q (k d) → ∀ v H', Same H H' → Rp K (cut Z H') v d → t v H') : tF K mg W f σ H t := by
  refine ⟨Z, ρ, e, ?_⟩
  rcases q.ofBind with ⟨a, r, q⟩ | ⟨c, r, q⟩
  · rw [r]; exact go a r q
  · rw [r]; exact q

/-! ### operators -/
/-- by values: what comes for which data -/
def rD2 (K : PySem.W.Frag) (g : D → D → R D) : R2 := fun x y H Q => ∃ Z d e, ZD Z H ∧ Rp K (cut Z H) x d ∧ Rp K (cut Z H) y e ∧ match g d e with
  | .ok r => ∀ v H', Same H H' → Rp K (cut Z H') v r → Q v H'
  | _ => False
def rD1 (K : PySem.W.Frag) (g : D → R D) : V → Hp → VK → Prop := fun x H Q => ∃ Z d, ZD Z H ∧ Rp K (cut Z H) x d ∧ match g d with
  | .ok r => ∀ v H', Same H H' → Rp K (cut Z H') v r → Q v H'
  | _ => False
def rDC (K : PySem.W.Frag) (g : List D → R D) : List V → Hp → VK → Prop := fun xs H Q => ∃ Z ds, ZD Z H ∧ RpA K (cut Z H) xs ds ∧ match g ds with
  | .ok r => ∀ v H', Same H H' → Rp K (cut Z H') v r → Q v H'
  | _ => False
/-- .. a new list -/
def rNC (K : PySem.W.Frag) (g : List D → R (List D)) : List V → Hp → VK → Prop := fun xs H Q => ∃ Z ds, ZD Z H ∧ RpA K (cut Z H) xs ds ∧ match g ds with
  | .ok es => ∀ p ys H', Same H H' → H p = none → H' p = some (.lst ys) → RpA K (cut (fun a => Z a ∨ a = p) H') ys es → Q (.ref p) H'
  | _ => False
@[simp] def sBin (g : D → D → R D) (f h : Env → R D) : Env → R D := fun ρ => (f ρ).bind fun x => (h ρ).bind fun y => (g x y).nox
@[simp] def sUn (g : D → R D) (f : Env → R D) : Env → R D := fun ρ => (f ρ).bind fun x => (g x).nox
theorem PoE.nox_of {Q : VK} {r : R D} (h : PoE K mg W Z σ H Q r.nox) : ∃ d, r = .ok d ∧ ∀ v H', Same H H' → Rp K (cut Z H') v d → Q v H' := by
  cases r with
  | ok d => exact ⟨d, rfl, h⟩
  | exc c => exact h.elim
  | bad => exact h.elim
theorem bin_reads {f h : Env → R D} {g : D → D → R D} {Q : VK} (q : tF K mg W (sBin g f h) σ H Q) :
    tF K mg W f σ H fun x H1 => tF K mg W h σ H1 fun y H2 => rD2 K g x y H2 Q := by
  obtain ⟨Z, ρ, e, q⟩ := q
  refine tF.first e q fun d r1 q1 v H1 s1 p1 => ?_
  refine tF.first (e.up s1) (q1.up s1) fun d2 r2 q2 u H2 s2 p2 => ?_
  obtain ⟨d3, r3, q3⟩ := (q2.up s2).nox_of
  refine ⟨Z, d, d2, (e.up (s1.trans s2)).zd, p1.up (Same.cut s2), p2, ?_⟩
  rw [r3]
  exact q3
theorem fe_bin {op : Operator} {a b : Expr} {f h : Env → R D} {g : D → D → R D} {pos : Pos} (ho : OpR X (binaryOp op) (rD2 X.K g)) (ha : FE X W a f) (hb : FE X W b h) : FE X W (.BinOp a op b pos) (sBin g f h) :=
  ⟨PE.imp (pe_op ho ha.pe hb.pe) fun _ _ _ q => bin_reads q⟩
theorem fe_un {op : UnaryOp} {a : Expr} {f : Env → R D} {g : D → R D} {pos : Pos} (ho : UnR X (unaryOp op) (rD1 X.K g)) (ha : FE X W a f) : FE X W (.UnaryOp op a pos) (sUn g f) :=
  ⟨PE.imp (pe_un ho ha.pe) fun σ H Q ⟨Z, ρ, e, q⟩ => by
    refine tF.first e q fun d r1 q1 v H1 s1 p1 => ?_
    obtain ⟨d3, r3, q3⟩ := (q1.up s1).nox_of
    refine ⟨Z, d, (e.up s1).zd, p1, ?_⟩
    rw [r3]
    exact q3⟩
theorem fe_cmp {op : CmpOp} {a b : Expr} {f h : Env → R D} {g : D → D → R D} {pos : Pos} (ho : OpR X (compareOp op) (rD2 X.K g)) (ha : FE X W a f) (hb : FE X W b h) (hm : behindInMarks op b = false) : FE X W (.Compare a [op] [b] pos) (sBin g f h) :=
  ⟨PE.imp (pe_cmpR ho ha.pe hb.pe hm) fun _ _ _ q => bin_reads q⟩
theorem fe_ix {a b : Expr} {f h : Env → R D} {g : D → D → R D} {pos : Pos} (ho : IxR X (rD2 X.K g)) (ha : FE X W a f) (hb : FE X W b h) (hs : PlainIx b) : FE X W (.Subscript a b pos) (sBin g f h) :=
  ⟨PE.imp (pe_ix ho ha.pe hb.pe hs) fun _ _ _ q => bin_reads q⟩
/-- a bool -/
@[simp] def asB : D → R Bool
  | .bool b => .ok b
  | _ => .bad
@[simp] def sB (f : Env → R D) : Env → R Bool := fun ρ => (f ρ).bind asB
theorem PoB.ofBind {α : Type} {Q : Bool → Hp → Prop} {r : R α} {k : α → R Bool} (h : PoB K mg W Z σ H Q (r.bind k)) : (∃ a, r = .ok a ∧ PoB K mg W Z σ H Q (k a)) ∨ ∃ c, r = .exc c ∧ PoB K mg W Z σ H Q (.exc c) := by
  cases r with
  | ok a => exact .inl ⟨a, rfl, h⟩
  | exc c => exact .inr ⟨c, rfl, h⟩
  | bad => exact h.elim
theorem PoA.ofBind {α : Type} {Q : List V → Hp → Prop} {r : R α} {k : α → R (List D)} (h : PoA K mg W Z σ H Q (r.bind k)) : (∃ a, r = .ok a ∧ PoA K mg W Z σ H Q (k a)) ∨ ∃ c, r = .exc c ∧ PoA K mg W Z σ H Q (.exc c) := by
  cases r with
  | ok a => exact .inl ⟨a, rfl, h⟩
  | exc c => exact .inr ⟨c, rfl, h⟩
  | bad => exact h.elim
theorem PoN.ofBind {α : Type} {Q : VK} {r : R α} {k : α → R (List D)} (h : PoN K mg W Z σ H Q (r.bind k)) : (∃ a, r = .ok a ∧ PoN K mg W Z σ H Q (k a)) ∨ ∃ c, r = .exc c ∧ PoN K mg W Z σ H Q (.exc c) := by
  cases r with
  | ok a => exact .inl ⟨a, rfl, h⟩
  | exc c => exact .inr ⟨c, rfl, h⟩
  | bad => exact h.elim
theorem bool_reads {f : Env → R D} {Q : Bool → Hp → Prop} (q : tT K mg W (sB f) σ H Q) : tF K mg W f σ H fun x H1 => ∃ c, x = .bl c ∧ Q c H1 := by
  obtain ⟨Z, ρ, e, q⟩ := q
  refine ⟨Z, ρ, e, ?_⟩
  rcases q.ofBind with ⟨a, r, q⟩ | ⟨c, r, q⟩
  · rw [r]
    cases a with
    | bool b => intro v H1 s p; cases p; exact ⟨b, rfl, q H1 s⟩
    | _ => exact q.elim
  · rw [r]; exact q
theorem ft_val {e : Expr} {f : Env → R D} (h : FE X W e f) (he : ∀ whole, isTrue e X.env whole = (do let v ← whole; standAt e.pos; holding [v] (truthy v)) := by intro _; rfl) : FT X W e (sB f) :=
  ⟨PT.imp (pt_val h.pe he) fun _ _ _ q => bool_reads q⟩
theorem ft_cmp {op : CmpOp} {a b : Expr} {f h : Env → R D} {g : D → D → R D} {pos : Pos} (ho : OpR X (compareOp op) (rD2 X.K g)) (ha : FE X W a f) (hb : FE X W b h) (hm : behindInMarks op b = false) : FT X W (.Compare a [op] [b] pos) (sB (sBin g f h)) :=
  ⟨PT.imp (pt_cmpR ho ha.pe hb.pe hm) fun _ _ _ q => bin_reads (bool_reads q)⟩
end
end PL

set_option Elab.async false
set_option linter.all false
set_option autoImplicit false
set_option maxRecDepth 100000
/-! PL2: arguments, calls, displays, tests -/
namespace PL
open PySem PySem.Spec PyProof.Rows L2
section
variable {X : Cx} {W : WX} {K : PySem.W.Frag} {mg : Str → Option Value} {Z : Addr → Prop} {σ : L2.St} {H H' : Hp}

/-! ### argument lists -/
@[simp] def sNil : Env → R (List D) := fun _ => .ok []
@[simp] def sCons (f : Env → R D) (g : Env → R (List D)) : Env → R (List D) := fun ρ => (f ρ).bind fun x => (g ρ).bind fun xs => .ok (x :: xs)
theorem fa_nil : FA X W [] sNil := ⟨PA.imp pa_nil fun _ H _ ⟨_, _, _, q⟩ => q [] H (Same.refl H) .nil⟩
theorem cons_reads {f : Env → R D} {g : Env → R (List D)} {Q : List V → Hp → Prop} (q : tA K mg W (sCons f g) σ H Q) : tCons (tF K mg W f) (tA K mg W g) σ H Q := by
  obtain ⟨Z, ρ, e, q⟩ := q
  refine ⟨Z, ρ, e, ?_⟩
  rcases q.ofBind with ⟨a, r, q⟩ | ⟨c, r, q⟩
  · rw [r]
    intro v H1 s1 p1
    refine ⟨Z, ρ, e.up s1, ?_⟩
    rcases (q.up s1).ofBind with ⟨a2, r2, q2⟩ | ⟨c, r2, q2⟩
    · rw [r2]
      intro vs H2 s2 p2
      exact q2 _ _ s2 (.cons (p1.up (Same.cut s2)) p2)
    · rw [r2]; exact q2
  · rw [r]; exact q
theorem fa_cons {e : Expr} {es : List Expr} {f : Env → R D} {g : Env → R (List D)} (ha : FE X W e f) (hr : FA X W es g) (hs : starEach (e :: es) X.env = (false, eval e X.env) :: starEach es X.env := by rfl) : FA X W (e :: es) (sCons f g) :=
  ⟨PA.imp (pa_cons ha.pe hr.pa hs) fun _ _ _ q => cons_reads q⟩

/-! ### displays -/
def okLen (ds : List D) : Bool := decide (ds.length ≤ sizeLine)
@[simp] def sTup (g : Env → R (List D)) : Env → R D := fun ρ => (g ρ).bind fun ds => if okLen ds = true then .ok (.tuple ds) else .bad
@[simp] def sLs (g : Env → R (List D)) : Env → R (List D) := fun ρ => (g ρ).bind fun ds => if okLen ds = true then .ok ds else .bad
theorem okLen_le {ds : List D} (h : okLen ds = true) : ds.length ≤ sizeLine := of_decide_eq_true h
theorem fe_tup {es : List Expr} {g : Env → R (List D)} {x1} {pos : Pos} (h : FA X W es g) : FE X W (.Tuple es x1 pos) (sTup g) :=
  ⟨PE.imp (pe_tupF h.pa) fun σ H Q ⟨Z, ρ, e, q⟩ => by
    refine ⟨Z, ρ, e, ?_⟩
    rcases q.ofBind with ⟨a, r, q⟩ | ⟨c, r, q⟩
    · rw [r]
      intro vs H1 s1 p1
      split at q
      · next hl =>
        refine ⟨by rw [p1.length]; exact okLen_le hl, fun p o hp hd => q _ _ (s1.trans (Same.new hp)) (.tup (.inl ⟨o, ?_, hd⟩) (p1.up (Same.cut (Same.new hp))))⟩
        exact cut_some.mpr ⟨(e.zd.up s1).fresh hp, upd_same⟩
      · exact q.elim
    · rw [r]; exact q⟩
theorem fn_lst {es : List Expr} {g : Env → R (List D)} {pos : Pos} (h : FA X W es g) : FN X W (.List es pos) (sLs g) :=
  ⟨PE.imp (pe_lst h.pa) fun σ H Q ⟨Z, ρ, e, q⟩ => by
    refine ⟨Z, ρ, e, ?_⟩
    rcases q.ofBind with ⟨a, r, q⟩ | ⟨c, r, q⟩
    · rw [r]
      intro vs H1 s1 p1
      split at q
      · next hl =>
        refine ⟨by rw [p1.length]; exact okLen_le hl, fun p hp => q p vs _ (s1.trans (Same.new hp)) (s1.free hp) upd_same (p1.up fun a o ho => ?_)⟩
        rw [cut_some] at ho ⊢
        have hne : a ≠ p := ne_of_none ho.2 hp
        exact ⟨fun z => z.elim ho.1 hne, by rw [upd_ne hne]; exact ho.2⟩
      · exact q.elim
    · rw [r]; exact q⟩

/-! ### calls -/
/-- what a def keeps to: its function on data -/
def spD (K : PySem.W.Frag) (mg : Str → Option Value) (n : Nat) (F : List D → R D) : Sp := fun vs H Q E => vs.length = n ∧ ∃ Z ds, ZD Z H ∧ RpA K (cut Z H) vs ds ∧ match F ds with
  | .ok d => ∀ v H', Same H H' → Rp K (cut Z H') v d → Q v H'
  | .exc c => ∀ H' C, Same H H' → mg c = some (.ref C) → E (.ref C) none H'
  | .bad => False
@[simp] def sCall (F : List D → R D) (g : Env → R (List D)) : Env → R D := fun ρ => (g ρ).bind F
theorem call_reads {n : Nat} {F : List D → R D} {g : Env → R (List D)} {Q : VK} (hn : ∀ ρ ds, g ρ = .ok ds → ds.length = n) (q : tF K mg W (sCall F g) σ H Q) :
    tCallS (spD K mg n F) (WE W) (tA K mg W g) σ H Q := by
  obtain ⟨Z, ρ, e, q⟩ := q
  refine ⟨Z, ρ, e, ?_⟩
  rcases q.ofBind with ⟨ds, r, q⟩ | ⟨c, r, q⟩
  · rw [r]
    intro vs H1 s1 p1
    refine ⟨by rw [p1.length]; exact hn ρ ds r, Z, ds, (e.up s1).zd, p1, ?_⟩
    have q := q.up s1
    cases h : F ds with
    | ok d => rw [h] at q; exact q
    | exc c => rw [h] at q; exact q
    | bad => rw [h] at q; exact q
  · rw [r]; exact q
theorem sCons_len {f : Env → R D} {g : Env → R (List D)} {n : Nat} (h : ∀ ρ ds, g ρ = .ok ds → ds.length = n) : ∀ ρ ds, sCons f g ρ = .ok ds → ds.length = n + 1 := fun ρ ds e => by
  unfold sCons at e
  cases r : f ρ with
  | ok x =>
    rw [r] at e
    cases r2 : g ρ with
    | ok xs =>
      simp only [R.bind, r2] at e
      cases e
      simp [h ρ xs r2]
    | exc c => simp [R.bind, r2] at e
    | bad => simp [R.bind, r2] at e
  | exc c => rw [r] at e; cases e
  | bad => rw [r] at e; cases e
theorem sNil_len : ∀ ρ ds, sNil ρ = .ok ds → ds.length = 0 := fun ρ ds e => by cases e; rfl
/-- f(e, ..) -/
theorem fe_call {k : Nat} {f : Addr} {fd : FuncData} {ps : List Str} {F : List D → R D} {x : Str} {p pos : Pos} {e : Expr} {es : List Expr} {g : Env → R (List D)}
    (G : FnOk X.prog X.w X.K X.mg X.base (L2.CX X.prog X.w) k f fd ps (spD X.K X.mg ps.length F)) (hr : Room k X.A) (tk : Takes X W) (hg : Gl X x) (hm : X.mg x = some (.ref f)) (hk : PySem.W.keepIn X.K (.ref f) = true) (hb : Binds X.K fd ps [])
    (ha : FA X W (e :: es) g) (hn : ∀ ρ ds, g ρ = .ok ds → ds.length = ps.length) (hdb : (x == ("__debug__" : Str)) = false := by decide) (he : starEach (e :: es) X.env = (false, eval e X.env) :: starEach es X.env := by rfl) (hpl : (backTo pos (starEach es X.env)).any (·.1) = false := by rfl) :
    FE X W (.Call (.Name x p) (e :: es) [] pos) (sCall F g) :=
  ⟨PE.imp (pe_callS G hr hg hm hk hb (fun σ => passAt tk σ) ha.pa hdb he hpl) fun _ _ _ q => call_reads hn q⟩
/-- a built-in, a built-in type -/
@[simp] def sCb (F : List D → R D) (g : Env → R (List D)) : Env → R D := fun ρ => (g ρ).bind fun ds => (F ds).nox
@[simp] def sCn (F : List D → R (List D)) (g : Env → R (List D)) : Env → R (List D) := fun ρ => (g ρ).bind fun ds => (F ds).nox
theorem cb_reads {F : List D → R D} {g : Env → R (List D)} {Q : VK} (q : tF K mg W (sCb F g) σ H Q) : tCB (rDC K F) (tA K mg W g) σ H Q := by
  obtain ⟨Z, ρ, e, q⟩ := q
  refine ⟨Z, ρ, e, ?_⟩
  rcases q.ofBind with ⟨ds, r, q⟩ | ⟨c, r, q⟩
  · rw [r]
    intro vs H1 s1 p1
    obtain ⟨d, r2, q2⟩ := (q.up s1).nox_of
    refine ⟨Z, ds, (e.up s1).zd, p1, ?_⟩
    rw [r2]; exact q2
  · rw [r]; exact q
theorem PoN.nox_of {Q : VK} {r : R (List D)} (h : PoN K mg W Z σ H Q r.nox) : ∃ d, r = .ok d ∧ ∀ p xs H', Same H H' → H p = none → H' p = some (.lst xs) → RpA K (cut (fun a => Z a ∨ a = p) H') xs d → Q (.ref p) H' := by
  cases r with
  | ok d => exact ⟨d, rfl, h⟩
  | exc c => exact h.elim
  | bad => exact h.elim
theorem cn_reads {F : List D → R (List D)} {g : Env → R (List D)} {Q : VK} (q : tN K mg W (sCn F g) σ H Q) : tCB (rNC K F) (tA K mg W g) σ H Q := by
  obtain ⟨Z, ρ, e, q⟩ := q
  refine ⟨Z, ρ, e, ?_⟩
  rcases q.ofBind with ⟨ds, r, q⟩ | ⟨c, r, q⟩
  · rw [r]
    intro vs H1 s1 p1
    obtain ⟨d, r2, q2⟩ := (q.up s1).nox_of
    refine ⟨Z, ds, (e.up s1).zd, p1, ?_⟩
    rw [r2]; exact q2
  · rw [r]; exact q
section
variable {x : Str} {p pos : Pos} {e : Expr} {es : List Expr} {g : Env → R (List D)} {id T : String}
theorem fe_cb {F : List D → R D} (hc : CallR X (.builtin id) (rDC X.K F)) (hg : Gl X x) (hm : X.mg x = none) (hv : bootBuiltins x = some (.builtin id)) (ha : FA X W (e :: es) g) (hn : x ≠ "__name__" := by decide) (hdb : (x == ("__debug__" : Str)) = false := by decide)
    (he : starEach (e :: es) X.env = (false, eval e X.env) :: starEach es X.env := by rfl) (hpl : (backTo pos (starEach es X.env)).any (·.1) = false := by rfl) : FE X W (.Call (.Name x p) (e :: es) [] pos) (sCb F g) :=
  ⟨PE.imp (pe_callB hc hg hm hv ha.pa hn hdb he hpl) fun _ _ _ q => cb_reads q⟩
theorem fe_cty {F : List D → R D} (hc : CallR X (.type T) (rDC X.K F)) (hg : Gl X x) (hm : X.mg x = none) (hv : bootBuiltins x = some (.type T)) (ha : FA X W (e :: es) g) (hn : x ≠ "__name__" := by decide) (hdb : (x == ("__debug__" : Str)) = false := by decide)
    (he : starEach (e :: es) X.env = (false, eval e X.env) :: starEach es X.env := by rfl) (hpl : (backTo pos (starEach es X.env)).any (·.1) = false := by rfl) : FE X W (.Call (.Name x p) (e :: es) [] pos) (sCb F g) :=
  ⟨PE.imp (pe_callTy hc hg hm hv ha.pa hn hdb he hpl) fun _ _ _ q => cb_reads q⟩
theorem fn_cb {F : List D → R (List D)} (hc : CallR X (.builtin id) (rNC X.K F)) (hg : Gl X x) (hm : X.mg x = none) (hv : bootBuiltins x = some (.builtin id)) (ha : FA X W (e :: es) g) (hn : x ≠ "__name__" := by decide) (hdb : (x == ("__debug__" : Str)) = false := by decide)
    (he : starEach (e :: es) X.env = (false, eval e X.env) :: starEach es X.env := by rfl) (hpl : (backTo pos (starEach es X.env)).any (·.1) = false := by rfl) : FN X W (.Call (.Name x p) (e :: es) [] pos) (sCn F g) :=
  ⟨PE.imp (pe_callB hc hg hm hv ha.pa hn hdb he hpl) fun _ _ _ q => cn_reads q⟩
theorem fn_cty {F : List D → R (List D)} (hc : CallR X (.type T) (rNC X.K F)) (hg : Gl X x) (hm : X.mg x = none) (hv : bootBuiltins x = some (.type T)) (ha : FA X W (e :: es) g) (hn : x ≠ "__name__" := by decide) (hdb : (x == ("__debug__" : Str)) = false := by decide)
    (he : starEach (e :: es) X.env = (false, eval e X.env) :: starEach es X.env := by rfl) (hpl : (backTo pos (starEach es X.env)).any (·.1) = false := by rfl) : FN X W (.Call (.Name x p) (e :: es) [] pos) (sCn F g) :=
  ⟨PE.imp (pe_callTy hc hg hm hv ha.pa hn hdb he hpl) fun _ _ _ q => cn_reads q⟩
end

/-! ### tests -/
@[simp] def sAnd (f g : Env → R Bool) : Env → R Bool := fun ρ => (f ρ).bind fun b => match b with | true => g ρ | false => .ok false
@[simp] def sOr (f g : Env → R Bool) : Env → R Bool := fun ρ => (f ρ).bind fun b => match b with | true => .ok true | false => g ρ
@[simp] def sNot (f : Env → R Bool) : Env → R Bool := fun ρ => (f ρ).bind fun b => .ok (!b)
theorem tT.first {f : Env → R Bool} {ρ : Env} {Q : Bool → Hp → Prop} {k : Bool → R Bool} {t : Bool → Hp → Prop} (e : EOk K Z H σ ρ) (q : PoB K mg W Z σ H Q ((f ρ).bind k))
    (go : ∀ d, f ρ = .ok d → PoB K mg W Z σ H Q (k d) → ∀ H', Same H H' → t d H') : tT K mg W f σ H t := by
  refine ⟨Z, ρ, e, ?_⟩
  rcases q.ofBind with ⟨a, r, q⟩ | ⟨c, r, q⟩
  · rw [r]; exact go a r q
  · rw [r]; exact q
theorem and_reads {f g : Env → R Bool} {Q : Bool → Hp → Prop} (q : tT K mg W (sAnd f g) σ H Q) : tAnd (tT K mg W f) (tT K mg W g) σ H Q := by
  obtain ⟨Z, ρ, e, q⟩ := q
  refine tT.first e q fun d r q1 H1 s1 => ?_
  cases d with
  | true => rw [if_pos rfl]; exact ⟨Z, ρ, e.up s1, q1.up s1⟩
  | false => rw [if_neg Bool.false_ne_true]; exact q1 H1 s1
theorem or_reads {f g : Env → R Bool} {Q : Bool → Hp → Prop} (q : tT K mg W (sOr f g) σ H Q) : tOr (tT K mg W f) (tT K mg W g) σ H Q := by
  obtain ⟨Z, ρ, e, q⟩ := q
  refine tT.first e q fun d r q1 H1 s1 => ?_
  cases d with
  | true => rw [if_pos rfl]; exact q1 H1 s1
  | false => rw [if_neg Bool.false_ne_true]; exact ⟨Z, ρ, e.up s1, q1.up s1⟩
variable {a b : Expr} {rest : List Expr} {pos : Pos} {f g : Env → R Bool}
theorem fw_and1 (ha : FT X W a f) : FW X W (.BoolOp .And [a] pos) f := ⟨pw_and1 ha.pt⟩
theorem fw_or1 (ha : FT X W a f) : FW X W (.BoolOp .Or [a] pos) f := ⟨pw_or1 ha.pt⟩
theorem fw_and (ha : FT X W a f) (hb : FW X W (.BoolOp .And (b :: rest) pos) g) : FW X W (.BoolOp .And (a :: b :: rest) pos) (sAnd f g) := ⟨PW.imp (pw_and ha.pt hb.pw) fun _ _ _ q => and_reads q⟩
theorem fw_or (ha : FT X W a f) (hb : FW X W (.BoolOp .Or (b :: rest) pos) g) : FW X W (.BoolOp .Or (a :: b :: rest) pos) (sOr f g) := ⟨PW.imp (pw_or ha.pt hb.pw) fun _ _ _ q => or_reads q⟩
theorem ft_not (ha : FT X W a f) : FT X W (.UnaryOp .Not a pos) (sNot f) := ⟨PT.imp (pt_not ha.pt) fun σ H Q ⟨Z, ρ, e, q⟩ => by
  refine tT.first e q fun d r q1 H1 s1 => ?_
  exact q1 H1 s1⟩
/-! as values: bools -/
@[simp] def sAndV (f g : Env → R D) : Env → R D := fun ρ => (f ρ).bind fun x => match x with | .bool true => g ρ | .bool false => .ok (.bool false) | _ => .bad
@[simp] def sOrV (f g : Env → R D) : Env → R D := fun ρ => (f ρ).bind fun x => match x with | .bool true => .ok (.bool true) | .bool false => g ρ | _ => .bad
@[simp] def sNotV (f : Env → R D) : Env → R D := fun ρ => (f ρ).bind fun x => match x with | .bool b => .ok (.bool (!b)) | _ => .bad
variable {u v : Env → R D}
theorem fe_one {op} (h : FE X W a u) : FE X W (.BoolOp op [a] pos) u := ⟨pe_one h.pe⟩
theorem fe_and (ha : FE X W a u) (hb : FE X W (.BoolOp .And (b :: rest) pos) v) : FE X W (.BoolOp .And (a :: b :: rest) pos) (sAndV u v) :=
  ⟨PE.imp (pe_and ha.pe hb.pe) fun σ H Q ⟨Z, ρ, e, q⟩ => tF.first e q fun d r q1 x H1 s1 p1 => by
    cases p1 with
    | bl c =>
      refine ⟨c, rfl, ?_⟩
      cases c with
      | true => rw [if_pos rfl]; exact ⟨Z, ρ, e.up s1, q1.up s1⟩
      | false => rw [if_neg Bool.false_ne_true]; exact q1 _ H1 s1 (.bl false)
    | _ => exact q1.elim⟩
theorem fe_or (ha : FE X W a u) (hb : FE X W (.BoolOp .Or (b :: rest) pos) v) : FE X W (.BoolOp .Or (a :: b :: rest) pos) (sOrV u v) :=
  ⟨PE.imp (pe_or ha.pe hb.pe) fun σ H Q ⟨Z, ρ, e, q⟩ => tF.first e q fun d r q1 x H1 s1 p1 => by
    cases p1 with
    | bl c =>
      refine ⟨c, rfl, ?_⟩
      cases c with
      | true => rw [if_pos rfl]; exact q1 _ H1 s1 (.bl true)
      | false => rw [if_neg Bool.false_ne_true]; exact ⟨Z, ρ, e.up s1, q1.up s1⟩
    | _ => exact q1.elim⟩
theorem fe_not (ha : FE X W a u) : FE X W (.UnaryOp .Not a pos) (sNotV u) :=
  ⟨PE.imp (pe_not ha.pe) fun σ H Q ⟨Z, ρ, e, q⟩ => tF.first e q fun d r q1 x H1 s1 p1 => by
    cases p1 with
    | bl c => exact ⟨c, rfl, q1 _ H1 s1 (.bl _)⟩
    | _ => exact q1.elim⟩
/-- a if c else b -/
@[simp] def sIte (c : Env → R Bool) (u v : Env → R D) : Env → R D := fun ρ => (c ρ).bind fun k => match k with | true => u ρ | false => v ρ
theorem fe_ite {c : Expr} {t : Env → R Bool} (hc : FT X W c t) (ha : FE X W a u) (hb : FE X W b v) : FE X W (.IfExp c a b pos) (sIte t u v) :=
  ⟨PE.imp (pe_ifExp hc.pt ha.pe hb.pe) fun σ H Q ⟨Z, ρ, e, q⟩ => by
    refine ⟨Z, ρ, e, ?_⟩
    rcases q.ofBind with ⟨k, r, q⟩ | ⟨c, r, q⟩
    · rw [r]
      intro H1 s1
      cases k with
      | true => rw [if_pos rfl]; exact ⟨Z, ρ, e.up s1, q.up s1⟩
      | false => rw [if_neg Bool.false_ne_true]; exact ⟨Z, ρ, e.up s1, q.up s1⟩
    · rw [r]; exact q⟩
/-- x <= y <= z -/
@[simp] def sChain (g g' : D → D → R D) (f h k : Env → R D) : Env → R D := fun ρ => (f ρ).bind fun x => (h ρ).bind fun y => (g x y).nox.bind fun z => match z with | .bool true => (k ρ).bind fun w => (g' y w).nox | .bool false => .ok (.bool false) | _ => .bad
theorem chain_reads {g g' : D → D → R D} {f h k : Env → R D} {Q : VK} (q : tF K mg W (sChain g g' f h k) σ H Q) :
    tChain (rD2 K g) (rD2 K g') (tF K mg W f) (tF K mg W h) (tF K mg W k) σ H Q := by
  obtain ⟨Z, ρ, e, q⟩ := q
  refine tF.first e q fun d r1 q1 v H1 s1 p1 => ?_
  refine tF.first (e.up s1) (q1.up s1) fun d2 r2 q2 u H2 s2 p2 => ?_
  have q2 := q2.up s2
  have s12 := s1.trans s2
  refine ⟨Z, d, d2, (e.up s12).zd, p1.up (Same.cut s2), p2, ?_⟩
  cases h3 : g d d2 with
  | ok z =>
    rw [h3] at q2
    intro z' H3 s3 p3
    cases p3 with
    | bl c =>
      refine ⟨c, rfl, ?_⟩
      cases c with
      | true =>
        rw [if_pos rfl]
        refine tF.first (e.up (s12.trans s3)) (q2.up s3) fun d4 r4 q4 w H4 s4 p4 => ?_
        obtain ⟨d5, r5, q5⟩ := (q4.up s4).nox_of
        refine ⟨Z, d2, d4, (e.up ((s12.trans s3).trans s4)).zd, p2.up (Same.cut (s3.trans s4)), p4, ?_⟩
        rw [r5]
        exact q5
      | false => rw [if_neg Bool.false_ne_true]; exact (q2.up s3) _ _ (Same.refl _) (.bl false)
    | _ => exact q2.elim
  | exc c => rw [h3] at q2; exact q2.elim
  | bad => rw [h3] at q2; exact q2.elim
end
end PL

set_option Elab.async false
set_option linter.all false
set_option autoImplicit false
set_option maxRecDepth 100000
/-! PL3: operators on data -/
namespace PL
open PySem PySem.Spec PySem.SeqAt PyProof.Rows L2

instance (i j : Int) : Decidable (CMul i j) := by unfold CMul; exact inferInstance
instance (i j : Int) : Decidable (CMulW i j) := by unfold CMulW; exact inferInstance
instance (i j : Int) : Decidable (CPow i j) := by unfold CPow; exact inferInstance
instance (i j : Int) : Decidable (CDivW i j) := by unfold CDivW; exact inferInstance
def smallLen (n : Nat) : Bool := decide (n ≤ sizeLine)
def gAdd : D → D → R D
  | .int i, .int j => .ok (.int (i + j))
  | .str x, .str y => if smallLen (x.length + y.length) = true then .ok (.str (x ++ y)) else .bad
  | .tuple xs, .tuple ys => if smallLen (xs.length + ys.length) = true then .ok (.tuple (xs ++ ys)) else .bad
  | .list xs, .list ys => if smallLen (xs.length + ys.length) = true then .ok (.list (xs ++ ys)) else .bad
  | _, _ => .bad
def gCatN : List D → R (List D)
  | [.list xs, .list ys] => if smallLen (xs.length + ys.length) = true then .ok (xs ++ ys) else .bad
  | _ => .bad
def gSub : D → D → R D
  | .int i, .int j => .ok (.int (i - j))
  | _, _ => .bad
def gMul : D → D → R D
  | .int i, .int j => if decide (CMul i j) || decide (CMulW i j) then .ok (.int (i * j)) else .bad
  | .list xs, .int k => if decide (-(2 ^ 63) ≤ k) && decide (k < 2 ^ 63) && smallLen (xs.length * k.toNat) then .ok (.list (List.replicate k.toNat xs).flatten) else .bad
  | _, _ => .bad
def gFdiv : D → D → R D
  | .int i, .int j => if decide (CDivW i j) then .ok (.int (i / j)) else .bad
  | _, _ => .bad
def gMod : D → D → R D
  | .int i, .int j => if decide (0 < j) then .ok (.int (i % j)) else .bad
  | _, _ => .bad
def gPow : D → D → R D
  | .int i, .int j => if decide (CPow i j) then .ok (.int (i ^ j.toNat)) else .bad
  | _, _ => .bad
def gNeg : D → R D
  | .int i => .ok (.int (-i))
  | _ => .bad
def shp (d : D) : Bool := PyData.plain d && decide (d.depth ≤ 64)
def gEq : D → D → R D
  | .int i, .int j => .ok (.bool (i == j))
  | d, e => if shp d && shp e then .ok (.bool (PyData.eqv d e)) else .bad
def gNe : D → D → R D
  | .int i, .int j => .ok (.bool (!(i == j)))
  | d, e => if shp d && shp e then .ok (.bool (!PyData.eqv d e)) else .bad
theorem shp_plain {d : D} (h : shp d = true) : d.plain = true := (Bool.and_eq_true_iff.mp h).1
theorem shp_depth {d : D} (h : shp d = true) : d.depth ≤ 64 := of_decide_eq_true (Bool.and_eq_true_iff.mp h).2
theorem gEq_ok {d e r : D} (h : gEq d e = .ok r) : shp d = true ∧ shp e = true ∧ r = .bool (PyData.eqv d e) := by
  unfold gEq at h
  split at h
  · next i j => cases h; exact ⟨rfl, rfl, by rw [PyData.eqv]⟩
  · split at h
    · next c => cases h; rw [Bool.and_eq_true] at c; exact ⟨c.1, c.2, rfl⟩
    · cases h
theorem gNe_ok {d e r : D} (h : gNe d e = .ok r) : shp d = true ∧ shp e = true ∧ r = .bool (!PyData.eqv d e) := by
  unfold gNe at h
  split at h
  · next i j => cases h; exact ⟨rfl, rfl, by rw [PyData.eqv]⟩
  · split at h
    · next c => cases h; rw [Bool.and_eq_true] at c; exact ⟨c.1, c.2, rfl⟩
    · cases h
def isNone : D → Bool
  | .none => true
  | _ => false
def gIs : D → D → R D
  | d, .none => .ok (.bool (isNone d))
  | .bool a, .bool b => .ok (.bool (a == b))
  | _, _ => .bad
def gIsNot : D → D → R D
  | d, .none => .ok (.bool (!isNone d))
  | .bool a, .bool b => .ok (.bool (!(a == b)))
  | _, _ => .bad
section
variable {X : Cx} {K : PySem.W.Frag}
theorem smallLen_le {n : Nat} (h : smallLen n = true) : n ≤ sizeLine := of_decide_eq_true h
theorem op_gAdd : OpR X (binaryOp .Add) (rD2 X.K gAdd) := by
  intro pins s σ H x y v u Q I rx ry h
  obtain ⟨Z, d, e, z, p1, p2, q⟩ := h
  cases p1 with
  | int i =>
    cases p2 with
    | int j => exact op_add pins s σ H _ _ v u Q I rx ry ⟨i, j, rfl, rfl, q _ _ (Same.refl H) (.int _)⟩
    | _ => exact (show False from q).elim
  | str i =>
    cases p2 with
    | str j =>
      simp only [gAdd] at q
      split at q
      · next hh =>
        split at hh
        · next hl => cases hh; exact op_add_str pins s σ H _ _ v u Q I rx ry ⟨i, j, rfl, rfl, smallLen_le hl, q _ _ (Same.refl H) (.str _)⟩
        · cases hh
      · exact q.elim
    | _ => exact (show False from q).elim
  | tup h1 h2 =>
    cases p2 with
    | @tup a2 xs2 ds2 h3 h4 =>
      simp only [gAdd] at q
      split at q
      · next hh =>
        split at hh
        · next hl =>
          cases hh
          have l1 := h2.length
          have l2 := h4.length
          refine op_catF pins s σ H _ _ v u Q I rx ry ⟨_, _, _, _, rfl, rfl, SqT.same h1.sqT Same.uncut, SqT.same h3.sqT Same.uncut, by rw [l1, l2]; exact smallLen_le hl, fun e => ?_, fun _ e => ?_, fun _ _ p o hp hd => ?_⟩
          · subst e; cases h2; exact q _ _ (Same.refl H) (.tup h3 h4)
          · subst e; cases h4; rw [List.append_nil] at q; exact q _ _ (Same.refl H) (.tup h1 h2)
          · exact q _ _ (Same.new hp) (.tup (.inl ⟨o, cut_some.mpr ⟨z.fresh hp, upd_same⟩, hd⟩) ((h2.append h4).up (Same.cut (Same.new hp))))
        · cases hh
      · exact q.elim
    | _ => exact (show False from q).elim
  | lst h1 h2 =>
    cases p2 with
    | @lst a2 xs2 ds2 h3 h4 =>
      simp only [gAdd] at q
      split at q
      · next hh =>
        split at hh
        · next hl =>
          cases hh
          have l1 := h2.length
          have l2 := h4.length
          refine op_cat pins s σ H _ _ v u Q I rx ry ⟨_, _, _, _, rfl, rfl, (cut_some.mp h1).2, (cut_some.mp h3).2, by rw [l1, l2]; exact smallLen_le hl, fun p hp => ?_⟩
          exact q _ _ (Same.new hp) (.lst (cut_some.mpr ⟨z.fresh hp, upd_same⟩) ((h2.append h4).up (Same.cut (Same.new hp))))
        · cases hh
      · exact q.elim
    | _ => exact (show False from q).elim
  | _ => cases p2 <;> exact (show False from q).elim
/-- two ints -/
theorem op_int2 {f : Value → Value → Sem Value} {g : D → D → R D} {C : Int → Int → Prop} {k : Int → Int → V} {kd : Int → Int → D} (h : OpR X f (rI C k)) (hg : ∀ d e r, g d e = .ok r → ∃ i j, d = .int i ∧ e = .int j ∧ C i j ∧ r = kd i j)
    (hk : ∀ i j K H, Rp K H (k i j) (kd i j)) : OpR X f (rD2 X.K g) := by
  intro pins s σ H x y v u Q I rx ry q
  obtain ⟨Z, d, e, z, p1, p2, q⟩ := q
  split at q
  · next r hr =>
    obtain ⟨i, j, rfl, rfl, c, rfl⟩ := hg d e r hr
    cases p1
    cases p2
    exact h pins s σ H _ _ v u Q I rx ry ⟨i, j, rfl, rfl, c, q _ _ (Same.refl H) (hk i j _ _)⟩
  · exact q.elim
theorem op_gSub : OpR X (binaryOp .Sub) (rD2 X.K gSub) := by
  refine op_int2 (C := fun _ _ => True) (k := fun i j => .int (i - j)) (kd := fun i j => .int (i - j)) ?_ (fun d e r h => ?_) (fun i j K H => .int _)
  · intro pins s σ H x y v u Q I rx ry ⟨i, j, h1, h2, _, q⟩
    exact op_sub pins s σ H x y v u Q I rx ry ⟨i, j, h1, h2, q⟩
  · cases d <;> cases e <;> try (cases h; done)
    cases h; exact ⟨_, _, rfl, rfl, trivial, rfl⟩
theorem op_gFdiv : OpR X (binaryOp .FloorDiv) (rD2 X.K gFdiv) := by
  refine op_int2 (kd := fun i j => .int (i / j)) op_fdivW (fun d e r h => ?_) (fun i j K H => .int _)
  cases d <;> cases e <;> try (cases h; done)
  simp only [gFdiv] at h
  split at h
  · next c => cases h; exact ⟨_, _, rfl, rfl, of_decide_eq_true c, rfl⟩
  · cases h
theorem op_gMod : OpR X (binaryOp .Mod) (rD2 X.K gMod) := by
  refine op_int2 (kd := fun i j => .int (i % j)) op_mod (fun d e r h => ?_) (fun i j K H => .int _)
  cases d <;> cases e <;> try (cases h; done)
  simp only [gMod] at h
  split at h
  · next c => cases h; exact ⟨_, _, rfl, rfl, of_decide_eq_true c, rfl⟩
  · cases h
theorem op_gPow : OpR X (binaryOp .Pow) (rD2 X.K gPow) := by
  refine op_int2 (kd := fun i j => .int (i ^ j.toNat)) op_pow (fun d e r h => ?_) (fun i j K H => .int _)
  cases d <;> cases e <;> try (cases h; done)
  simp only [gPow] at h
  split at h
  · next c => cases h; exact ⟨_, _, rfl, rfl, of_decide_eq_true c, rfl⟩
  · cases h
theorem op_gMul : OpR X (binaryOp .Mult) (rD2 X.K gMul) := by
  intro pins s σ H x y v u Q I rx ry h
  obtain ⟨Z, d, e, z, p1, p2, q⟩ := h
  cases p1 with
  | int i =>
    cases p2 with
    | int j =>
      simp only [gMul] at q
      split at q
      · next hh =>
        split at hh
        · next hl =>
          cases hh
          have q' := q _ _ (Same.refl H) (.int _)
          rw [Bool.or_eq_true] at hl
          rcases hl with c | c
          · exact op_mul pins s σ H _ _ v u Q I rx ry ⟨i, j, rfl, rfl, of_decide_eq_true c, q'⟩
          · exact op_mulW pins s σ H _ _ v u Q I rx ry ⟨i, j, rfl, rfl, of_decide_eq_true c, q'⟩
        · cases hh
      · exact q.elim
    | _ => exact (show False from q).elim
  | lst h1 h2 =>
    cases p2 with
    | int k =>
      simp only [gMul] at q
      split at q
      · next hh =>
        split at hh
        · next hl =>
          cases hh
          rw [Bool.and_eq_true, Bool.and_eq_true] at hl
          refine op_rep pins s σ H _ _ v u Q I rx ry ⟨_, k, _, rfl, rfl, (cut_some.mp h1).2, of_decide_eq_true hl.1.1, of_decide_eq_true hl.1.2, by rw [h2.length]; exact smallLen_le hl.2, fun p hp => ?_⟩
          exact q _ _ (Same.new hp) (.lst (cut_some.mpr ⟨z.fresh hp, upd_same⟩) ((h2.rep k.toNat).up (Same.cut (Same.new hp))))
        · cases hh
      · exact q.elim
    | _ => exact (show False from q).elim
  | _ => cases p2 <;> exact (show False from q).elim
theorem un_gNeg : UnR X (unaryOp .USub) (rD1 X.K gNeg) := by
  intro pins s σ H x v Q I rx h
  obtain ⟨Z, d, z, p1, q⟩ := h
  cases p1 with
  | int i => exact un_neg pins s σ H _ v Q I rx ⟨i, rfl, q _ _ (Same.refl H) (.int _)⟩
  | _ => exact (show False from q).elim
theorem op_gEq (hu : X.A.units + 80 < cLine) : OpR X (compareOp .Eq) (rD2 X.K gEq) := by
  intro pins s σ H x y v u Q I rx ry h
  obtain ⟨Z, d, e, z, p1, p2, q⟩ := h
  split at q
  · next r hr =>
    obtain ⟨c1, c2, rfl⟩ := gEq_ok hr
    obtain ⟨as, r1⟩ := Dp.reads I d x v ((p1.up Same.uncut).toDp (shp_plain c1)) rx
    obtain ⟨bs, r2⟩ := Dp.reads I e y u ((p2.up Same.uncut).toDp (shp_plain c2)) ry
    have d1 := shp_depth c1
    exact eq_plain r1 r2 (shp_plain c1) (shp_plain c2) (by omega) ⟨.bl _, H, I, rfl, q _ _ (Same.refl H) (.bl _)⟩
  · exact q.elim
theorem op_gNe (hu : X.A.units + 80 < cLine) : OpR X (compareOp .NotEq) (rD2 X.K gNe) := by
  intro pins s σ H x y v u Q I rx ry h
  obtain ⟨Z, d, e, z, p1, p2, q⟩ := h
  split at q
  · next r hr =>
    obtain ⟨c1, c2, rfl⟩ := gNe_ok hr
    obtain ⟨as, r1⟩ := Dp.reads I d x v ((p1.up Same.uncut).toDp (shp_plain c1)) rx
    obtain ⟨bs, r2⟩ := Dp.reads I e y u ((p2.up Same.uncut).toDp (shp_plain c2)) ry
    have d1 := shp_depth c1
    exact ne_plain r1 r2 (shp_plain c1) (shp_plain c2) (by omega) ⟨.bl _, H, I, rfl, q _ _ (Same.refl H) (.bl _)⟩
  · exact q.elim
theorem isNone_of {H : Hp} {x : V} {d : D} (p : Rp K H x d) : decide (x = .non) = isNone d := by
  cases p <;> rfl
theorem op_gIs : OpR X (compareOp .Is) (rD2 X.K gIs) := by
  intro pins s σ H x y v u Q I rx ry h
  obtain ⟨Z, d, e, z, p1, p2, q⟩ := h
  cases p2 with
  | non =>
    refine op_isN pins s σ H _ _ v u Q I rx ry ⟨rfl, ?_⟩
    rw [isNone_of p1]
    cases p1 <;> exact q _ _ (Same.refl H) (.bl _)
  | bl b =>
    cases p1 with
    | bl a =>
      refine op_is_bl pins s σ H _ _ v u Q I rx ry ⟨a, b, rfl, rfl, ?_⟩
      have e : decide (a = b) = (a == b) := by cases a <;> cases b <;> rfl
      rw [e]
      exact q _ _ (Same.refl H) (.bl _)
    | _ => exact (show False from q).elim
  | _ => cases p1 <;> exact (show False from q).elim
theorem op_gIsNot : OpR X (compareOp .IsNot) (rD2 X.K gIsNot) := by
  intro pins s σ H x y v u Q I rx ry h
  obtain ⟨Z, d, e, z, p1, p2, q⟩ := h
  cases p2 with
  | non =>
    refine op_notN pins s σ H _ _ v u Q I rx ry ⟨rfl, ?_⟩
    rw [isNone_of p1]
    cases p1 <;> exact q _ _ (Same.refl H) (.bl _)
  | bl b =>
    cases p1 with
    | bl a =>
      refine op_isnot_bl pins s σ H _ _ v u Q I rx ry ⟨a, b, rfl, rfl, ?_⟩
      have e : decide (a = b) = (a == b) := by cases a <;> cases b <;> rfl
      rw [e]
      exact q _ _ (Same.refl H) (.bl _)
    | _ => exact (show False from q).elim
  | _ => cases p1 <;> exact (show False from q).elim
end
end PL

set_option Elab.async false
set_option linter.all false
set_option autoImplicit false
set_option maxRecDepth 100000
/-! PL4: order -/
namespace PL
open PySem PySem.Spec PySem.SeqAt PyProof.Rows L2
/-- by which of the four -/
inductive Ord4 where | lt | le | gt | ge
def Ord4.int : Ord4 → Int → Int → Bool
  | .lt, i, j => decide (i < j)
  | .le, i, j => decide (i ≤ j)
  | .gt, i, j => decide (j < i)
  | .ge, i, j => decide (j ≤ i)
def Ord4.op : Ord4 → CmpOp
  | .lt => .Lt
  | .le => .LtE
  | .gt => .Gt
  | .ge => .GtE
def Ord4.dat : Ord4 → D → D → Bool
  | .lt, x, y => PySem.W.dataLt x y
  | .le, x, y => !PySem.W.dataLt y x
  | .gt, x, y => PySem.W.dataLt y x
  | .ge, x, y => !PySem.W.dataLt x y
def cmpOk (x y : D) : Bool := PySem.W.alike x y && !isNone x && decide (x.depth ≤ 64) && (x.plain && y.plain)
def gOrd (o : Ord4) : D → D → R D
  | .int i, .int j => .ok (.bool (o.int i j))
  | d, e => if cmpOk d e then .ok (.bool (o.dat d e)) else .bad
theorem notNone {d : D} (h : (!isNone d) = true) : d ≠ .none := by
  intro e; subst e; cases h
theorem cmpOk_of {x y : D} (h : cmpOk x y = true) : PySem.W.alike x y = true ∧ x ≠ .none ∧ x.depth ≤ 64 ∧ x.plain = true ∧ y.plain = true := by
  unfold cmpOk at h
  rw [Bool.and_eq_true, Bool.and_eq_true, Bool.and_eq_true, Bool.and_eq_true] at h
  exact ⟨h.1.1.1, notNone h.1.1.2, of_decide_eq_true h.1.2, h.2.1, h.2.2⟩
theorem gOrd_ok {o : Ord4} {d e r : D} (h : gOrd o d e = .ok r) : cmpOk d e = true ∧ r = .bool (o.dat d e) := by
  unfold gOrd at h
  split at h
  · next i j =>
    cases h
    refine ⟨rfl, ?_⟩
    cases o
    · simp only [Ord4.dat, PySem.W.dataLt_int, Ord4.int]
    · simp only [Ord4.dat, PySem.W.dataLt_int, Ord4.int]
      congr 1
      by_cases q : i ≤ j
      · rw [decide_eq_true q, decide_eq_false (by omega)]; rfl
      · rw [decide_eq_false q, decide_eq_true (by omega)]; rfl
    · simp only [Ord4.dat, PySem.W.dataLt_int, Ord4.int]
    · simp only [Ord4.dat, PySem.W.dataLt_int, Ord4.int]
      congr 1
      by_cases q : j ≤ i
      · rw [decide_eq_true q, decide_eq_false (by omega)]; rfl
      · rw [decide_eq_false q, decide_eq_true (by omega)]; rfl
  · split at h
    · next c => cases h; exact ⟨c, rfl⟩
    · cases h
section
variable {X : Cx}
theorem op_gOrd (o : Ord4) (hu : X.A.units + 80 < cLine) : OpR X (compareOp o.op) (rD2 X.K (gOrd o)) := by
  intro pins s σ H x y v u Q I rx ry h
  obtain ⟨Z, d, e, z, p1, p2, q⟩ := h
  split at q
  · next r hr =>
    obtain ⟨c, rfl⟩ := gOrd_ok hr
    obtain ⟨c1, c2, c3, c4, c5⟩ := cmpOk_of c
    obtain ⟨as, r1⟩ := Dp.reads I d x v ((p1.up Same.uncut).toDp c4) rx
    obtain ⟨bs, r2⟩ := Dp.reads I e y u ((p2.up Same.uncut).toDp c5) ry
    have fin : EP X pins σ Q (.bool (o.dat d e)) s := ⟨.bl _, H, I, rfl, q _ _ (Same.refl H) (.bl _)⟩
    cases o
    · exact PySem.W.lt_data r1 r2 c1 c2 (by omega) fin
    · exact PySem.W.le_data r1 r2 c1 c2 (by omega) fin
    · exact PySem.W.gt_data r1 r2 c1 c2 (by omega) fin
    · exact PySem.W.ge_data r1 r2 c1 c2 (by omega) fin
  · exact q.elim
theorem op_gLt (hu : X.A.units + 80 < cLine) : OpR X (compareOp .Lt) (rD2 X.K (gOrd .lt)) := op_gOrd .lt hu
theorem op_gLe (hu : X.A.units + 80 < cLine) : OpR X (compareOp .LtE) (rD2 X.K (gOrd .le)) := op_gOrd .le hu
theorem op_gGt (hu : X.A.units + 80 < cLine) : OpR X (compareOp .Gt) (rD2 X.K (gOrd .gt)) := op_gOrd .gt hu
theorem op_gGe (hu : X.A.units + 80 < cLine) : OpR X (compareOp .GtE) (rD2 X.K (gOrd .ge)) := op_gOrd .ge hu
end
end PL

set_option Elab.async false
set_option linter.all false
set_option autoImplicit false
set_option maxRecDepth 100000
/-! PL5: membership, items, slices -/
namespace PL
open PySem PySem.Spec PySem.SeqAt PyProof.Rows L2
def gIn (d e : D) : R D := match e with
  | .list es => if shp d && shp (.list es) then .ok (.bool (es.any fun z => PyData.eqv z d)) else .bad
  | .tuple es => if shp d && shp (.tuple es) then .ok (.bool (es.any fun z => PyData.eqv z d)) else .bad
  | .str y => match d with
    | .str x => .ok (.bool (!(Builtin.Str.occurrences y x 0 y.length 1).isEmpty))
    | _ => .bad
  | _ => .bad
def gNotIn (d e : D) : R D := match e with
  | .list es => if shp d && shp (.list es) then .ok (.bool (!es.any fun z => PyData.eqv z d)) else .bad
  | .tuple es => if shp d && shp (.tuple es) then .ok (.bool (!es.any fun z => PyData.eqv z d)) else .bad
  | .str y => match d with
    | .str x => .ok (.bool (!(!(Builtin.Str.occurrences y x 0 y.length 1).isEmpty)))
    | _ => .bad
  | _ => .bad
def gIx : D → D → R D
  | .list xs, .int i => match atI xs i with | some d => .ok d | none => .bad
  | .tuple xs, .int i => match atI xs i with | some d => .ok d | none => .bad
  | .str z, .int i => if smallLen z.length then (match atI z.cps.toList i with | some c => .ok (.str ⟨#[c]⟩) | none => .bad) else .bad
  | _, _ => .bad
def cutD {α : Type} (xs : List α) (lo hi : Option Int) : List α := (xs.drop (HT.sIx xs.length 0 lo)).take (HT.sIx xs.length xs.length hi - HT.sIx xs.length 0 lo)
def gSl (lo hi : Option Int) : D → R D
  | .list xs => .ok (.list (cutD xs lo hi))
  | .tuple xs => .ok (.tuple (cutD xs lo hi))
  | _ => .bad
def gSlN (lo hi : Option Int) : D → R (List D)
  | .list xs => .ok (cutD xs lo hi)
  | _ => .bad
def gRev : D → R D
  | .list xs => .ok (.list xs.reverse)
  | .tuple xs => .ok (.tuple xs.reverse)
  | _ => .bad
section
variable {X : Cx} {W : WX} {K : PySem.W.Frag} {mg : Str → Option Value}
theorem op_gIn (hu : X.A.units + 80 < cLine) : OpR X (compareOp .In) (rD2 X.K gIn) := by
  intro pins s σ H x y v u Q I rx ry h
  obtain ⟨Z, d, e, z, p1, p2, q⟩ := h
  have two := fun (c : shp d = true) => Dp.reads I d x v ((p1.up Same.uncut).toDp (shp_plain c)) rx
  cases p2 with
  | @lst a xs es h1 h2 =>
    simp only [gIn] at q
    split at q
    · next hh =>
      split at hh
      · next c =>
        cases hh
        rw [Bool.and_eq_true] at c
        obtain ⟨as, r1⟩ := two c.1
        obtain ⟨bs, r2⟩ := Dp.reads I (.list es) _ u (((Rp.lst h1 h2).up Same.uncut).toDp (shp_plain c.2)) ry
        have dd := shp_depth c.1
        exact in_list_data r2 r1 (by have := shp_plain c.2; simpa [PyData.plain] using this) (shp_plain c.1) (by omega) ⟨.bl _, H, I, rfl, q _ _ (Same.refl H) (.bl _)⟩
      · cases hh
    · exact q.elim
  | @tup a xs es h1 h2 =>
    simp only [gIn] at q
    split at q
    · next hh =>
      split at hh
      · next c =>
        cases hh
        rw [Bool.and_eq_true] at c
        obtain ⟨as, r1⟩ := two c.1
        obtain ⟨bs, r2⟩ := Dp.reads I (.tuple es) _ u (((Rp.tup h1 h2).up Same.uncut).toDp (shp_plain c.2)) ry
        have dd := shp_depth c.1
        exact in_tuple_data r2 r1 (by have := shp_plain c.2; simpa [PyData.plain] using this) (shp_plain c.1) (by omega) ⟨.bl _, H, I, rfl, q _ _ (Same.refl H) (.bl _)⟩
      · cases hh
    · exact q.elim
  | str y =>
    cases p1 with
    | str x => exact op_in_str pins s σ H _ _ v u Q I rx ry ⟨x, y, rfl, rfl, q _ _ (Same.refl H) (.bl _)⟩
    | _ => exact (show False from q).elim
  | _ => exact (show False from q).elim
theorem op_gNotIn (hu : X.A.units + 80 < cLine) : OpR X (compareOp .NotIn) (rD2 X.K gNotIn) := by
  intro pins s σ H x y v u Q I rx ry h
  obtain ⟨Z, d, e, z, p1, p2, q⟩ := h
  have two := fun (c : shp d = true) => Dp.reads I d x v ((p1.up Same.uncut).toDp (shp_plain c)) rx
  cases p2 with
  | @lst a xs es h1 h2 =>
    simp only [gNotIn] at q
    split at q
    · next hh =>
      split at hh
      · next c =>
        cases hh
        rw [Bool.and_eq_true] at c
        obtain ⟨as, r1⟩ := two c.1
        obtain ⟨bs, r2⟩ := Dp.reads I (.list es) _ u (((Rp.lst h1 h2).up Same.uncut).toDp (shp_plain c.2)) ry
        have dd := shp_depth c.1
        exact notIn_list_data r2 r1 (by have := shp_plain c.2; simpa [PyData.plain] using this) (shp_plain c.1) (by omega) ⟨.bl _, H, I, rfl, q _ _ (Same.refl H) (.bl _)⟩
      · cases hh
    · exact q.elim
  | @tup a xs es h1 h2 =>
    simp only [gNotIn] at q
    split at q
    · next hh =>
      split at hh
      · next c =>
        cases hh
        rw [Bool.and_eq_true] at c
        obtain ⟨as, r1⟩ := two c.1
        obtain ⟨bs, r2⟩ := Dp.reads I (.tuple es) _ u (((Rp.tup h1 h2).up Same.uncut).toDp (shp_plain c.2)) ry
        have dd := shp_depth c.1
        exact notIn_tuple_data r2 r1 (by have := shp_plain c.2; simpa [PyData.plain] using this) (shp_plain c.1) (by omega) ⟨.bl _, H, I, rfl, q _ _ (Same.refl H) (.bl _)⟩
      · cases hh
    · exact q.elim
  | str y =>
    cases p1 with
    | str x => exact op_notin_str pins s σ H _ _ v u Q I rx ry ⟨x, y, rfl, rfl, q _ _ (Same.refl H) (.bl _)⟩
    | _ => exact (show False from q).elim
  | _ => exact (show False from q).elim
theorem atI_rep {H : Hp} {xs : List V} {ds : List D} {i : Int} {d : D} (h : RpA K H xs ds) (e : atI ds i = some d) : ∃ v, atI xs i = some v ∧ Rp K H v d := by
  unfold atI at e ⊢
  rw [h.length]
  cases q : ixN ds.length i with
  | none => rw [q] at e; cases e
  | some j => rw [q] at e; exact RpA.get h e
theorem ix_gIx : IxR X (rD2 X.K gIx) := by
  intro value slice pins s σ H x y v u Q I rx ry h hs
  obtain ⟨Z, d, e, z, p1, p2, q⟩ := h
  cases p2 with
  | int i =>
    cases p1 with
    | @lst a xs ds h1 h2 =>
      simp only [gIx] at q
      split at q
      · next r hh =>
        split at hh
        · next d hd =>
          cases hh
          obtain ⟨w, e1, e2⟩ := atI_rep h2 hd
          exact ix_list value slice pins s σ H _ _ v u Q I rx ry ⟨a, xs, i, w, rfl, rfl, SqL.of (cut_some.mp h1).2, e1, q _ _ (Same.refl H) e2⟩ hs
        · cases hh
      · exact q.elim
    | @tup a xs ds h1 h2 =>
      simp only [gIx] at q
      split at q
      · next r hh =>
        split at hh
        · next d hd =>
          cases hh
          obtain ⟨w, e1, e2⟩ := atI_rep h2 hd
          exact ix_tup value slice pins s σ H _ _ v u Q I rx ry ⟨a, xs, i, w, rfl, rfl, SqT.same h1.sqT Same.uncut, e1, q _ _ (Same.refl H) e2⟩ hs
        · cases hh
      · exact q.elim
    | str zz =>
      simp only [gIx] at q
      split at q
      · next r hh =>
        split at hh
        · next hl =>
          split at hh
          · next c hd =>
            cases hh
            exact ix_str value slice pins s σ H _ _ v u Q I rx ry ⟨zz, i, c, rfl, rfl, smallLen_le hl, hd, q _ _ (Same.refl H) (.str _)⟩ hs
          · cases hh
        · cases hh
      · exact q.elim
    | _ => exact (show False from q).elim
  | _ => cases p1 <;> exact (show False from q).elim

/-! ### slices -/
def PoO (K : PySem.W.Frag) (mg : Str → Option Value) (W : WX) (σ : L2.St) (H : Hp) (Q : Option Int → Hp → Prop) : R (Option Int) → Prop
  | .ok i => ∀ H', Same H H' → Q i H'
  | .exc c => ∀ H' C, Same H H' → mg c = some (.ref C) → W (.ref C) none σ H'
  | .bad => False
def tOO (K : PySem.W.Frag) (mg : Str → Option Value) (W : WX) (f : Env → R (Option Int)) : TO := fun σ H Q => ∃ Z ρ, EOk K Z H σ ρ ∧ PoO K mg W σ H Q (f ρ)
structure FO (X : Cx) (W : WX) (e : Option Expr) (f : Env → R (Option Int)) : Prop where
  po : PO X e (tOO X.K X.mg W f)
theorem PO.imp {e : Option Expr} {t t' : TO} (h : PO X e t) (i : ∀ σ H Q, t' σ H Q → t σ H Q) : PO X e t' := ⟨fun pins s σ H Q I q => h.run pins s σ H Q I (i σ H Q q)⟩
@[simp] def sNoP : Env → R (Option Int) := fun _ => .ok none
@[simp] def asI : D → R (Option Int)
  | .int i => .ok (some i)
  | _ => .bad
@[simp] def sPart (f : Env → R D) : Env → R (Option Int) := fun ρ => (f ρ).bind asI
theorem fo_none : FO X W none sNoP := ⟨PO.imp po_none fun _ H _ ⟨_, _, _, q⟩ => q H (Same.refl H)⟩
theorem fo_some {e : Expr} {f : Env → R D} (h : FE X W e f) : FO X W (some e) (sPart f) := ⟨PO.imp (po_some h.pe) fun σ H Q ⟨Z, ρ, e, q⟩ => by
  refine ⟨Z, ρ, e, ?_⟩
  simp only [sPart] at q
  cases r : f ρ with
  | ok d =>
    rw [r] at q
    intro v H1 s1 p1
    cases p1 with
    | int i => exact ⟨i, rfl, q H1 s1⟩
    | _ => exact (show False from q).elim
  | exc c => rw [r] at q; exact q
  | bad => rw [r] at q; exact q⟩
@[simp] def sSl (f : Env → R D) (lo hi : Env → R (Option Int)) : Env → R D := fun ρ => (f ρ).bind fun d => (lo ρ).bind fun i => (hi ρ).bind fun j => (gSl i j d).nox
@[simp] def sSlN (f : Env → R D) (lo hi : Env → R (Option Int)) : Env → R (List D) := fun ρ => (f ρ).bind fun d => (lo ρ).bind fun i => (hi ρ).bind fun j => (gSlN i j d).nox
theorem cutD_rep {H : Hp} {xs : List V} {ds : List D} (lo hi : Option Int) (h : RpA K H xs ds) : RpA K H (cutV xs lo hi) (cutD ds lo hi) := by
  unfold cutV cutD
  rw [h.length]
  exact RpA.take _ (RpA.drop _ h)
def rSlD (K : PySem.W.Frag) : V → Option Int → Option Int → Hp → VK → Prop := fun x lo hi H Q => ∃ Z d, ZD Z H ∧ Rp K (cut Z H) x d ∧ match gSl lo hi d with
  | .ok r => ∀ v H', Same H H' → Rp K (cut Z H') v r → Q v H'
  | _ => False
def rSlDN (K : PySem.W.Frag) : V → Option Int → Option Int → Hp → VK → Prop := fun x lo hi H Q => ∃ Z d, ZD Z H ∧ Rp K (cut Z H) x d ∧ match gSlN lo hi d with
  | .ok es => ∀ p ys H', Same H H' → H p = none → H' p = some (.lst ys) → RpA K (cut (fun a => Z a ∨ a = p) H') ys es → Q (.ref p) H'
  | _ => False
theorem sl_rSlD : SlR X (rSlD X.K) := by
  intro pins s σ H x v vl vu lo hi sl Q I rx hs pl pu h
  obtain ⟨Z, d, z, p1, q⟩ := h
  cases p1 with
  | @lst a xs ds h1 h2 =>
    simp only [gSl] at q
    refine sl_list pins s σ H _ v vl vu lo hi sl Q I rx hs pl pu ⟨a, xs, rfl, SqL.of (cut_some.mp h1).2, fun p hp => ?_⟩
    exact q _ _ (Same.new hp) (.lst (cut_some.mpr ⟨z.fresh hp, upd_same⟩) ((cutD_rep lo hi h2).up (Same.cut (Same.new hp))))
  | @tup a xs ds h1 h2 =>
    simp only [gSl] at q
    refine sl_tupF pins s σ H _ v vl vu lo hi sl Q I rx hs pl pu ⟨a, xs, rfl, SqT.same h1.sqT Same.uncut, fun w => ?_, fun _ p o hp hd => ?_⟩
    · have e : cutD ds lo hi = ds := by
        unfold cutD
        rw [← h2.length, w.1, w.2, List.drop_zero, Nat.sub_zero, h2.length, List.take_length]
      rw [e] at q
      exact q _ _ (Same.refl H) (.tup h1 h2)
    · exact q _ _ (Same.new hp) (.tup (.inl ⟨o, cut_some.mpr ⟨z.fresh hp, upd_same⟩, hd⟩) ((cutD_rep lo hi h2).up (Same.cut (Same.new hp))))
  | _ => exact (show False from q).elim
/-- what stands in the list at a new address does not lean on it -/
theorem rep_new {Z : Addr → Prop} {H : Hp} {p : Addr} {o : HO} {xs : List V} {ds : List D} (hp : H p = none) (h : RpA K (cut Z H) xs ds) : RpA K (cut (fun a => Z a ∨ a = p) (upd H p o)) xs ds := h.up fun a o ho => by
  rw [cut_some] at ho ⊢
  have hne : a ≠ p := ne_of_none ho.2 hp
  exact ⟨fun z => z.elim ho.1 hne, by rw [upd_ne hne]; exact ho.2⟩
theorem sl_rSlDN : SlR X (rSlDN X.K) := by
  intro pins s σ H x v vl vu lo hi sl Q I rx hs pl pu h
  obtain ⟨Z, d, z, p1, q⟩ := h
  cases p1 with
  | @lst a xs ds h1 h2 =>
    simp only [gSlN] at q
    refine sl_list pins s σ H _ v vl vu lo hi sl Q I rx hs pl pu ⟨a, xs, rfl, SqL.of (cut_some.mp h1).2, fun p hp => ?_⟩
    exact q p _ _ (Same.new hp) hp upd_same (rep_new hp (cutD_rep lo hi h2))
  | _ => exact (show False from q).elim
theorem tOO.first {Z : Addr → Prop} {σ : L2.St} {H : Hp} {α : Type} {f : Env → R (Option Int)} {ρ : Env} {t : Option Int → Hp → Prop} (e : EOk K Z H σ ρ)
    (exc : ∀ c, f ρ = .exc c → ∀ H' C, Same H H' → mg c = some (.ref C) → W (.ref C) none σ H') (bad : f ρ ≠ .bad) (go : ∀ i, f ρ = .ok i → ∀ H', Same H H' → t i H') : tOO K mg W f σ H t := by
  refine ⟨Z, ρ, e, ?_⟩
  cases r : f ρ with
  | ok i => exact go i r
  | exc c => exact exc c r
  | bad => exact absurd r bad
theorem fe_slice {e : Expr} {lo hi : Option Expr} {f : Env → R D} {a b : Env → R (Option Int)} {p2 pos : Pos} (he : FE X W e f) (hl : FO X W lo a) (hh : FO X W hi b) : FE X W (.Subscript e (.Slice lo hi none p2) pos) (sSl f a b) :=
  ⟨PE.imp (pe_slice sl_rSlD he.pe hl.po hh.po) fun σ H Q ⟨Z, ρ, e, q⟩ => by
    refine tF.first e q fun d r1 q1 v H1 s1 p1 => ?_
    have q1 := q1.up s1
    refine ⟨Z, ρ, e.up s1, ?_⟩
    rcases q1.ofBind with ⟨i, r2, q2⟩ | ⟨c, r2, q2⟩
    · rw [r2]
      intro H2 s2
      have q2 := q2.up s2
      refine ⟨Z, ρ, e.up (s1.trans s2), ?_⟩
      rcases q2.ofBind with ⟨j, r3, q3⟩ | ⟨c, r3, q3⟩
      · rw [r3]
        intro H3 s3
        obtain ⟨d4, r4, q4⟩ := (q3.up s3).nox_of
        refine ⟨Z, d, (e.up ((s1.trans s2).trans s3)).zd, p1.up (Same.cut (s2.trans s3)), ?_⟩
        rw [r4]; exact q4
      · rw [r3]; exact q3
    · rw [r2]; exact q2⟩
theorem PoN.ofBindE {Z : Addr → Prop} {σ : L2.St} {H : Hp} {α : Type} {Q : VK} {r : R α} {k : α → R (List D)} (h : PoN K mg W Z σ H Q (r.bind k)) : (∃ a, r = .ok a ∧ PoN K mg W Z σ H Q (k a)) ∨ ∃ c, r = .exc c ∧ PoN K mg W Z σ H Q (.exc c) := h.ofBind
theorem fn_slice {e : Expr} {lo hi : Option Expr} {f : Env → R D} {a b : Env → R (Option Int)} {p2 pos : Pos} (he : FE X W e f) (hl : FO X W lo a) (hh : FO X W hi b) : FN X W (.Subscript e (.Slice lo hi none p2) pos) (sSlN f a b) :=
  ⟨PE.imp (pe_slice sl_rSlDN he.pe hl.po hh.po) fun σ H Q ⟨Z, ρ, e, q⟩ => by
    refine ⟨Z, ρ, e, ?_⟩
    rcases q.ofBind with ⟨d, r1, q1⟩ | ⟨c, r1, q1⟩
    · rw [r1]
      intro v H1 s1 p1
      have q1 := q1.up s1
      refine ⟨Z, ρ, e.up s1, ?_⟩
      rcases q1.ofBind with ⟨i, r2, q2⟩ | ⟨c, r2, q2⟩
      · rw [r2]
        intro H2 s2
        have q2 := q2.up s2
        refine ⟨Z, ρ, e.up (s1.trans s2), ?_⟩
        rcases q2.ofBind with ⟨j, r3, q3⟩ | ⟨c, r3, q3⟩
        · rw [r3]
          intro H3 s3
          obtain ⟨d4, r4, q4⟩ := (q3.up s3).nox_of
          refine ⟨Z, d, (e.up ((s1.trans s2).trans s3)).zd, p1.up (Same.cut (s2.trans s3)), ?_⟩
          rw [r4]; exact q4
        · rw [r3]; exact q3
      · rw [r2]; exact q2
    · rw [r1]; exact q1⟩
/-- script[:n] -/
@[simp] def sRawSl (i : Nat) (lo hi : Env → R (Option Int)) : Env → R (List D) := fun ρ => match ρ.getD i .no with
  | .raw ns => (lo ρ).bind fun a => (hi ρ).bind fun b => .ok ((cutD ns a b).map PyData.int)
  | _ => .bad
theorem getD_raw {ρ : Env} {i : Nat} {ns : List Int} (h : ρ.getD i .no = .raw ns) : ρ[i]? = some (.raw ns) := by
  rw [List.getD_eq_getElem?_getD] at h
  cases e : ρ[i]? with
  | none => rw [e] at h; cases h
  | some s => rw [e] at h; exact congrArg some h
theorem cutV_map (ns : List Int) (lo hi : Option Int) : cutV (ns.map V.int) lo hi = (cutD ns lo hi).map V.int := by
  unfold cutV cutD
  rw [List.length_map, List.map_take, List.map_drop]
theorem fn_rawslice (i : Nat) {x : Str} {lo hi : Option Expr} {a b : Env → R (Option Int)} {p1 p2 pos : Pos} (hl : FO X W lo a) (hh : FO X W hi b) (hN : X.N[i]? = some x := by rfl) (hv : Vis X.env.scope x := by first | exact Or.inl rfl | exact Or.inr (Or.inl rfl) | exact Or.inr (Or.inr rfl))
    (hd : (x == ("__debug__" : Str)) = false := by decide) (hcd : (x == ("__classdict__" : Str)) = false := by decide) : FN X W (.Subscript (.Name x p1) (.Slice lo hi none p2) pos) (sRawSl i a b) :=
  ⟨PE.imp (pe_slice sl_list (pe_var hN hv hd hcd) hl.po hh.po) fun σ H Q ⟨Z, ρ, e, q⟩ => by
    simp only [sRawSl] at q
    split at q
    · next ns hr =>
      obtain ⟨p, e1, e2⟩ := e.raw i ns (getD_raw hr)
      have e2 := SqL.same e2 Same.uncut
      refine ⟨_, e1, Z, ρ, e, ?_⟩
      rcases q.ofBind with ⟨ia, r2, q2⟩ | ⟨c, r2, q2⟩
      · rw [r2]
        intro H2 s2
        have q2 := q2.up s2
        refine ⟨Z, ρ, e.up s2, ?_⟩
        rcases q2.ofBind with ⟨j, r3, q3⟩ | ⟨c, r3, q3⟩
        · rw [r3]
          intro H3 s3
          refine ⟨p, _, rfl, SqL.same e2 (s2.trans s3), fun pp hp => ?_⟩
          have q3 := q3.up s3
          refine q3 pp _ _ (Same.new hp) hp upd_same ?_
          rw [cutV_map]
          exact RpA.ofInts _
        · rw [r3]; exact q3
      · rw [r2]; exact q2
    · exact q.elim⟩
end
end PL

set_option Elab.async false
set_option linter.all false
set_option autoImplicit false
set_option maxRecDepth 100000
/-! PL6: [::-1], built-ins -/
namespace PL
open PySem PySem.Spec PyProof.Rows L2

theorem fm_congr {α β : Type} {f g : α → Option β} : ∀ {l : List α}, (∀ x ∈ l, f x = g x) → l.filterMap f = l.filterMap g
  | [], _ => rfl
  | x :: xs, h => by
    rw [List.filterMap_cons, List.filterMap_cons, h x List.mem_cons_self, fm_congr fun y hy => h y (List.mem_cons_of_mem _ hy)]
/-! ### t[::-1] -/
section
variable {prog : Program} {w : World} {A : Around} {E : Value → Shared → Prop} {s : Shared}
theorem adjust_back (n : Nat) : Builtin.Slice.sliceAdjust none none (-1) (n : Int) = ((n : Int) - 1, -1) := by
  unfold Builtin.Slice.sliceAdjust
  simp
theorem places_back (n : Nat) : Builtin.Slice.slicePlaces ((n : Int) - 1) (-1) (-1) = n := by
  unfold Builtin.Slice.slicePlaces
  simp
  omega
theorem sliceApplied_back {sl : Addr} {vl vu vs : Value} {n : Nat} {Q : Int × Int × Nat → Shared → Prop} (hs : s.heap.IsSliceOf sl vl vu vs) (pl : IsPart vl none) (pu : IsPart vu none) (ps : IsPart vs (some (-1)))
    (h : Q ((n : Int) - 1, -1, n) s) : wpAny (model prog w) A (Builtin.Slice.sliceApplied (.ref sl) (pure (n : Int))) Q E s := by
  obtain ⟨os, hos, hcs, hds⟩ := id hs
  unfold Builtin.Slice.sliceApplied Builtin.Slice.sliceFields
  refine wpAny_bind (wpAny_bind (wpAny_field hos hds (x := vl) rfl (wpAny_bind (wpAny_field hos hds (x := vu) rfl (wpAny_bind (wpAny_field hos hds (x := vs) rfl (wpAny_pure ?_)))))))
  refine wpAny_bind (HT.slicePart_ ps ?_)
  show wpAny _ _ (if ((-1 : Int) == 0) = true then _ else _) _ _ s
  rw [if_neg (by decide)]
  refine wpAny_bind (HT.slicePart_ pl (wpAny_bind (HT.slicePart_ pu (wpAny_bind (wpAny_pure ?_)))))
  show wpAny _ _ (match Builtin.Slice.sliceAdjust none none (-1) (n : Int) with | (lo, hi) => pure (lo, (-1 : Int), Builtin.Slice.slicePlaces lo hi (-1))) _ _ s
  rw [adjust_back n]
  show wpAny _ _ (pure ((n : Int) - 1, (-1 : Int), Builtin.Slice.slicePlaces ((n : Int) - 1) (-1) (-1))) _ _ s
  rw [places_back]
  exact wpAny_pure h
theorem pick_back (xs : Array Value) : ((List.range xs.size).filterMap fun (m : Nat) => xs[(((xs.size : Nat) : Int) - 1 + (m : Int) * (-1)).toNat]?).toArray = xs.toList.reverse.toArray := by
  have e : (List.range xs.size).filterMap (fun (m : Nat) => xs[(((xs.size : Nat) : Int) - 1 + (m : Int) * (-1)).toNat]?) = (List.range xs.size).filterMap (fun m => xs[xs.size - 1 - m]?) := by
    refine fm_congr fun m hm => ?_
    have := List.mem_range.mp hm
    have : (((xs.size : Nat) : Int) - 1 + (m : Int) * (-1)).toNat = xs.size - 1 - m := by omega
    rw [this]
  rw [e]
  have h2 := PySem.W.krv_range xs.size
  have h3 : (List.range xs.size).filterMap (fun m => xs[xs.size - 1 - m]?) = ((List.range xs.size).map (fun k => xs.size - 1 - k)).filterMap (xs[·]?) := by
    rw [List.filterMap_map]; rfl
  rw [h3, h2, List.filterMap_reverse, PySem.W.krv_all]
theorem getItem_tuple_back {t sl : Addr} {items : Array Value} {vl vu vs : Value} {Q : Value → Shared → Prop} (ht : IsTup s.heap t items) (hs : s.heap.IsSliceOf sl vl vu vs) (pl : IsPart vl none) (pu : IsPart vu none) (ps : IsPart vs (some (-1)))
    (h : Q (.ref s.heap.objs.size) { s with heap := s.heap.push { cls := .type "tuple", data := .seq items.toList.reverse.toArray } })
    (hsz : items.size ≤ sizeLine) : wpAny (model prog w) A (getItem (.ref t) (.ref sl)) Q E s := by
  have htake : sizeOk (.seq items.toList.reverse.toArray) := by
    show items.toList.reverse.toArray.size ≤ sizeLine
    simpa using hsz
  obtain ⟨os, hos, hcs, hds⟩ := id hs
  have hTs : s.TypeIs (.ref sl) "slice" := ⟨os, hos, hcs⟩
  unfold getItem
  try with_reducible refine wpAny_holding ?_
  first | refine wpAny_bind (wpAny_pure ?_) | skip
  refine wpAny_bind (wpAny_sequenceKey ht.typeIs (by decide) ?_)
  refine wpAny_bind (wpAny_callSpecial?_slot (name := Str.ofString "__getitem__") ht.typeIs PyProof.Rows.slot_tuple_getitem
    (wpAny_call_entry PyProof.Rows.slot_tuple_getitem ht.typeIs entry_tuple_getitem ?_ (args_tuple_getitem _ _)))
  show wpAny _ _ (Builtin.Tuple.tupleItemsOf (.ref t) >>= _) _ _ s
  refine wpAny_bind (tupleItemsOf_ ht ?_)
  refine wpAny_bind (wpAny_typeOf hTs ?_)
  rw [if_pos (by decide)]
  refine wpAny_bind (sliceApplied_back hs pl pu ps ?_)
  have hno : ¬ ((((items.size : Nat) : Int) - 1 == 0 && (-1 : Int) == 1 && items.size == items.size) = true) := by
    intro q
    rw [Bool.and_eq_true, Bool.and_eq_true] at q
    exact absurd q.1.2 (by decide)
  show wpAny _ _ (if (((items.size : Nat) : Int) - 1 == 0 && (-1 : Int) == 1 && items.size == items.size) = true then _ else _) _ _ s
  rw [if_neg hno, pick_back]
  first
    | exact wpAny_bind (m := Builtin.Tuple.tupleExact _) (wpAny_newObj_type (wpAny_pure ⟨_, rfl, wpAny_pure h⟩) htake)
    | exact wpAny_bind (m := Builtin.Tuple.tupleExact _) (wpAny_newObj_type (wpAny_bind (wpAny_pure (wpAny_pure ⟨_, rfl, wpAny_pure h⟩))) htake)
    | exact wpAny_bind (wpAny_bind (m := Builtin.Tuple.tupleExact _) (wpAny_newObj_type (wpAny_pure (wpAny_pure ⟨_, rfl, wpAny_pure h⟩)) htake))
    | exact wpAny_bind (wpAny_bind (m := Builtin.Tuple.tupleExact _) (wpAny_newObj_type (wpAny_pure ⟨_, rfl, wpAny_pure h⟩) htake))
end
section
variable {X : Cx} {W : WX} {K : PySem.W.Frag} {mg : Str → Option Value}
theorem fe_rev {e : Expr} {f : Env → R D} {k : Nat} {p1 p2 p3 pos : Pos} (he : FE X W e f) : FE X W (.Subscript e (.Slice none none (some (.UnaryOp .USub (.Constant (.int 1) k p1) p2)) p3) pos) (sUn gRev f) := by
  refine ⟨⟨fun pins s σ H Q I q => ?_⟩⟩
  have q' : tF X.K X.mg W f σ H (fun x H1 => ∃ Z d, ZD Z H1 ∧ Rp X.K (cut Z H1) x d ∧ match gRev d with
      | .ok r => ∀ v H', Same H1 H' → Rp X.K (cut Z H') v r → Q v H'
      | _ => False) := by
    obtain ⟨Z, ρ, e, q⟩ := q
    refine tF.first e q fun d r1 q1 v H1 s1 p1 => ?_
    obtain ⟨d3, r3, q3⟩ := (q1.up s1).nox_of
    refine ⟨Z, d, (e.up s1).zd, p1, ?_⟩
    rw [r3]; exact q3
  refine Subscript_ (thn (he.pe.run pins s σ H _ I q') fun v s1 ⟨x, H1, I1, r1, Z, d, z, p, qq⟩ => ?_)
  have hst : PO X (some (.UnaryOp .USub (.Constant (.int 1) k p1) p2)) (tPart (tUn (rU fun i => .int (-i)) (tC (.int 1)))) := po_some (pe_un un_neg pe_int)
  refine wpAny_Slice (thn (po_none.run pins s1 σ H1 (fun o H2 => o = none ∧ H2 = H1) I1 ⟨rfl, rfl⟩) fun vl s2 ⟨l, H2, I2, pl, el, e2⟩ => ?_)
  subst el e2
  refine thn (po_none.run pins s2 σ H2 (fun o H3 => o = none ∧ H3 = H2) I2 ⟨rfl, rfl⟩) fun vu s3 ⟨u, H3, I3, pu, eu, e3⟩ => ?_
  subst eu e3
  refine thn (hst.run pins s3 σ H3 (fun o H4 => o = some (-1) ∧ H4 = H3) I3 ⟨1, rfl, -1, rfl, rfl, rfl⟩) fun vs s4 ⟨o, H4, I4, ps, eo, e4⟩ => ?_
  subst eo e4
  have I5 : Inv X pins σ H4 { s4 with heap := s4.heap.push { cls := .type "slice", data := .fields #[vl, vu, vs] } } := I4.kept (t' := s4.toks) fun b ob q => Heap.get?_push_of_some _ q
  cases p with
  | @lst a xs ds h1 h2 =>
    cases r1
    obtain ⟨its, r, ht, hz⟩ := I5.list (SqL.of (cut_some.mp h1).2)
    have hlen := r.length
    show wpAny (model X.prog X.w) X.A (subscriptTail e (.Slice none none (some (.UnaryOp .USub (.Constant (.int 1) k p1) p2)) p3) (.ref a) (.ref s4.heap.objs.size)) (EP X pins σ Q) X.xe { s4 with heap := s4.heap.push { cls := .type "slice", data := .fields #[vl, vu, vs] } }
    refine tail_any (ops := [.ref a, .ref s4.heap.objs.size]) ht.isList.typeIs (PySem.slot_list_getitem.lookup) ?_ (by with_unfolding_all rfl)
    refine wpAny_getItem_list_slice ht.isList (Heap.IsSliceOf.new _ vl vu vs) pl pu ps (by decide) ?_ (by rw [List.size_toArray]; omega)
    rw [PySem.W.krv_pick]
    have hp := I5.hok.fresh (Nat.le_refl (s4.heap.push { cls := .type "slice", data := .fields #[vl, vu, vs] }).objs.size)
    refine ⟨.ref _, _, I5.laid (t' := s4.toks) (o := .lst xs.reverse) (fun b ob q => Heap.get?_push_of_some _ q) (Nat.le_refl _) ?_, rfl, ?_⟩
    · exact ⟨by rw [List.length_reverse]; exact hz, _, 0, r.reverse, Heap.get?_push_size _ rfl⟩
    · exact qq _ _ (Same.new hp) (.lst (cut_some.mpr ⟨z.fresh hp, upd_same⟩) (h2.rev.up (Same.cut (Same.new hp))))
  | @tup a xs ds h1 h2 =>
    cases r1
    obtain ⟨its, r, ht, hz⟩ := I5.tuple (SqT.same h1.sqT Same.uncut)
    have hlen := r.length
    show wpAny (model X.prog X.w) X.A (subscriptTail e (.Slice none none (some (.UnaryOp .USub (.Constant (.int 1) k p1) p2)) p3) (.ref a) (.ref s4.heap.objs.size)) (EP X pins σ Q) X.xe { s4 with heap := s4.heap.push { cls := .type "slice", data := .fields #[vl, vu, vs] } }
    refine tail_any (ops := [.ref a, .ref s4.heap.objs.size]) ht.typeIs (PyProof.Rows.slot_tuple_getitem.lookup) ?_ (by with_unfolding_all rfl)
    refine getItem_tuple_back ht (Heap.IsSliceOf.new _ vl vu vs) pl pu ps ?_ (by rw [List.size_toArray]; omega)
    have hp := I5.hok.fresh (Nat.le_refl (s4.heap.push { cls := .type "slice", data := .fields #[vl, vu, vs] }).objs.size)
    exact ⟨.ref _, _, laidF (t' := s4.toks) I5 (by rw [List.length_reverse]; exact hz) r.reverse, rfl, qq _ _ (Same.new hp) (.tup (.inl ⟨_, cut_some.mpr ⟨z.fresh hp, upd_same⟩, rfl⟩) (h2.rev.up (Same.cut (Same.new hp))))⟩
  | _ => exact (show False from qq).elim

/-! ### built-ins -/
def bLen : List D → R D
  | [.list xs] => .ok (.int xs.length)
  | [.tuple xs] => .ok (.int xs.length)
  | [.str z] => if smallLen z.length then .ok (.int z.length) else .bad
  | _ => .bad
theorem cr_bLen : CallR X (.builtin "len") (rDC X.K bLen) := by
  intro pins s σ H vs us Q I r h
  obtain ⟨Z, ds, z, ps, q⟩ := h
  unfold bLen at q
  split at q
  · next r2 hh =>
    split at hh
    · cases hh
      cases ps with
      | cons p1 pn =>
        cases pn
        cases p1 with
        | lst h1 h2 =>
          refine call_len_seq pins s σ H _ us Q I r ⟨_, _, rfl, .inl (SqL.of (cut_some.mp h1).2), ?_⟩
          rw [h2.length]
          exact q _ _ (Same.refl H) (.int _)
    · cases hh
      cases ps with
      | cons p1 pn =>
        cases pn
        cases p1 with
        | tup h1 h2 =>
          refine call_len_seq pins s σ H _ us Q I r ⟨_, _, rfl, .inr (SqT.same h1.sqT Same.uncut), ?_⟩
          rw [h2.length]
          exact q _ _ (Same.refl H) (.int _)
    · split at hh
      · next c =>
        cases hh
        cases ps with
        | cons p1 pn =>
          cases pn
          cases p1
          exact call_len_str pins s σ H _ us Q I r ⟨_, rfl, smallLen_le c, q _ _ (Same.refl H) (.int _)⟩
      · cases hh
    · cases hh
  · exact q.elim
def bAbs : List D → R D
  | [.int i] => .ok (.int (if i < 0 then -i else i))
  | _ => .bad
theorem cr_bAbs : CallR X (.builtin "abs") (rDC X.K bAbs) := by
  intro pins s σ H vs us Q I r h
  obtain ⟨Z, ds, z, ps, q⟩ := h
  unfold bAbs at q
  split at q
  · next r2 hh =>
    split at hh
    · cases hh
      cases ps with
      | cons p1 pn => cases pn; cases p1; exact call_abs pins s σ H _ us Q I r ⟨_, rfl, q _ _ (Same.refl H) (.int _)⟩
    · cases hh
  · exact q.elim
def bInt : List D → R D
  | [.int i] => .ok (.int i)
  | [.bool k] => .ok (.int (if k then 1 else 0))
  | _ => .bad
theorem cr_bInt : CallR X (.type "int") (rDC X.K bInt) := by
  intro pins s σ H vs us Q I r h
  obtain ⟨Z, ds, z, ps, q⟩ := h
  unfold bInt at q
  split at q
  · next r2 hh =>
    split at hh
    · cases hh
      cases ps with
      | cons p1 pn => cases pn; cases p1; exact call_int1 pins s σ H _ us Q I r (.inl ⟨_, rfl, q _ _ (Same.refl H) (.int _)⟩)
    · cases hh
      cases ps with
      | cons p1 pn => cases pn; cases p1; exact call_int1 pins s σ H _ us Q I r (.inr ⟨_, rfl, q _ _ (Same.refl H) (.int _)⟩)
    · cases hh
  · exact q.elim
def bMax2 : List D → R D
  | [.int i, .int j] => .ok (.int (if j > i then j else i))
  | _ => .bad
def bMin2 : List D → R D
  | [.int i, .int j] => .ok (.int (if j < i then j else i))
  | _ => .bad
theorem cr_bMax2 (hc : X.calm = true) : CallR X (.builtin "max") (rDC X.K bMax2) := by
  intro pins s σ H vs us Q I r h
  obtain ⟨Z, ds, z, ps, q⟩ := h
  unfold bMax2 at q
  split at q
  · next r2 hh =>
    split at hh
    · cases hh
      cases ps with
      | cons p1 pn =>
        cases pn with
        | cons p2 pn => cases pn; cases p1; cases p2; exact call_max2 hc pins s σ H _ us Q I r ⟨_, _, rfl, q _ _ (Same.refl H) (.int _)⟩
    · cases hh
  · exact q.elim
theorem cr_bMin2 (hc : X.calm = true) : CallR X (.builtin "min") (rDC X.K bMin2) := by
  intro pins s σ H vs us Q I r h
  obtain ⟨Z, ds, z, ps, q⟩ := h
  unfold bMin2 at q
  split at q
  · next r2 hh =>
    split at hh
    · cases hh
      cases ps with
      | cons p1 pn =>
        cases pn with
        | cons p2 pn => cases pn; cases p1; cases p2; exact call_min2 hc pins s σ H _ us Q I r ⟨_, _, rfl, q _ _ (Same.refl H) (.int _)⟩
    · cases hh
  · exact q.elim
end
end PL

set_option Elab.async false
set_option linter.all false
set_option autoImplicit false
set_option maxRecDepth 100000
/-! PL7: built-ins over sequences -/
namespace PL
open PySem PySem.Spec PySem.SeqAt PyProof.Rows L2

/-! ### at the machine's level: a tuple summed, sorted -/
section
variable {prog : Program} {w : World} {A : Around} {E : Value → Shared → Prop} {s : Shared}
theorem sum_intTup {l : Addr} {xs : Array (Int × Tok)} {Q : Value → Shared → Prop} (hh : A.handled = none) (hl : s.heap.IsTuple l (intItems xs))
    (h : ∀ h' tk t', (∀ b o, s.heap.get? b = some o → h'.get? b = some o) → Q (.int (preSum (numAt xs) xs.size) t') { s with heap := h', toks := tk }) :
    wpAny (model prog w) A (call (.builtin "sum") [.ref l]) Q E s := by
  have hlt : l < s.heap.objs.size := by obtain ⟨_, e, _⟩ := hl; exact Heap.lt_size e
  refine call_sum_walkG (wpAny_pyIter_tuple hl ?_)
  refine ⟨_, _, _, _, _, _, numAt xs, rfl, Walks.tuple (A := A.in1) hh _ l (Nat.ne_of_lt hlt) (intItems xs), ⟨⟨_, Heap.get?_push_size _ rfl, rfl, rfl⟩, hl.push _⟩, (fun b hb => ?_), (fun _ _ => intItems_at), fun h' tk t' hk => ?_⟩
  · show b < (s.heap.push _).objs.size
    rw [Heap.size_push]
    rcases List.mem_cons.mp hb with rfl | hb
    · exact Nat.lt_succ_self _
    · rcases List.mem_cons.mp hb with rfl | hb
      · exact Nat.lt_succ_of_lt hlt
      · cases hb
  · have := h h' tk t' (fun b o e => hk b o (fun hm => absurd (Heap.lt_size e) ((List.mem_singleton.mp hm) ▸ Nat.lt_irrefl _)) (Heap.get?_push_of_some _ e))
    simpa [intItems] using this
theorem sum_rawT {l : Addr} {its : List Value} {ns : List Int} {Q : Value → Shared → Prop} (hh : A.handled = none) (hl : s.heap.IsTuple l its.toArray) (hi : IntsAre its ns)
    (h : ∀ h' tk t', (∀ b o, s.heap.get? b = some o → h'.get? b = some o) → Q (.int ns.sum t') { s with heap := h', toks := tk }) : wpAny (model prog w) A (call (.builtin "sum") [.ref l]) Q E s := by
  obtain ⟨xs, e⟩ := hi.allInts.items
  have hn : numsOf (intItems xs).toList = ns := by rw [← e]; exact hi.numsOf
  rw [nums_intItems] at hn
  rw [e] at hl
  refine sum_intTup hh hl fun h' tk t' hk => ?_
  have := h h' tk t' hk
  rw [preSum_eq, List.take_of_length_le (by simp), hn]; exact this
theorem collect_tup {l : Addr} {vs : List Value} {Q : List Value → Shared → Prop} (hl : s.heap.IsTuple l vs.toArray)
    (h : Q vs { s with heap := (s.heap.push (seqObj "list" #[] 0)).update s.heap.objs.size (Obj.mapSeq (· ++ vs.toArray)) }) (hsz : vs.length ≤ sizeLine) :
    wpAny (model prog w) A (collect (.ref l)) Q E s := by
  obtain ⟨o, ho, hc, n, hd⟩ := id hl
  unfold collect
  refine wpAny_bind (wpAny_runValue (codeAny_builtin entry_proto_collect' ?_))
  show wpAny _ _ (do again (.builtin "list.__iadd__" ⟨[← newList [], .ref l], []⟩)) _ _ s
  refine wpAny_bind (wpAny_newList (wpAny_pure ⟨Code.quiet_builtin _ (by decide +kernel), codeAny_builtin entry_list_iadd' ?_⟩))
  show wpAny _ _ (Builtin.List.listExtendWith (.ref s.heap.objs.size) (.ref l) (.ref s.heap.objs.size)) _ _ { s with heap := s.heap.push (seqObj "list" #[] 0) }
  unfold Builtin.List.listExtendWith
  have ho' : (s.heap.push (seqObj "list" #[] 0)).get? l = some o := Heap.get?_push_of_some _ ho
  refine wpAny_bind (wpAny_typeOf (T := "tuple") ⟨o, ho', hc⟩ ?_)
  have ht : (Value.type "tuple" == Value.type "tuple") = true := by rfl
  rw [if_pos (by rw [ht]; simp)]
  refine wpAny_bind (listItems_at ho' hd ?_)
  refine wpAny_bind (listItems_at (xs := #[]) (n := 0) (Heap.get?_push_size _ rfl) rfl ?_)
  rw [if_neg (by simp)]
  refine wpAny_bind (listUpdate_at (xs := #[]) (n := 0) (Heap.get?_push_size _ rfl) rfl ?_ (Nat.zero_le _) (by show (#[] ++ vs.toArray).size ≤ sizeLine + 1; simp only [Array.size_append, List.size_toArray, List.length_nil]; omega))
  refine wpAny_pure ?_
  show wpAny (model prog w) A (do
      let o ← load s.heap.objs.size
      match o.data with
      | .seq xs _ => pure xs.toList
      | _ => unsupported "internal:collect") Q E { s with heap := (s.heap.push (seqObj "list" #[] 0)).update s.heap.objs.size (Obj.mapSeq (· ++ vs.toArray)) }
  refine wpAny_bind (wpAny_load (get?_update_seq (Heap.get?_push_size _ rfl) _) ?_)
  show wpAny _ _ (pure ((#[] : Array Value) ++ vs.toArray).toList) Q E _
  rw [show ((#[] : Array Value) ++ vs.toArray).toList = vs by simp]
  exact wpAny_pure h
open PySem.W in
theorem sortedT_vals {κ : PyProof.Rows.KeyKind} {l : Addr} {vs : List Value} {Q : Value → Shared → Prop} (hl : s.heap.IsTuple l vs.toArray) (S : SortsAt prog w A.in1.in1 { s with heap := sortingHeap (copyHeap s.heap vs) (s.heap.objs.size + 1) vs } κ vs) (hL : vs.length ≤ sizeLine)
    (h : Q (.ref (s.heap.objs.size + 1)) { s with heap := sortedAll s.heap vs (sortVals κ false vs vs).toArray }) : wpAny (model prog w) A (call (.builtin "sorted") [.ref l]) Q E s := by
  refine Calls.call_function_entry kind_sorted plain_sorted entry_sorted (args_sorted1 _) ?_
  unfold Builtin.«sorted»
  refine wpAny_bind (m := checkCount "sorted" 1 1 _) (wpAny_pure ?_)
  refine wpAny_bind (collect_tup hl ?_ hL)
  refine wpAny_bind (wpAny_newList ?_ hL)
  have hsz : ((s.heap.push (seqObj "list" #[] 0)).update s.heap.objs.size (Obj.mapSeq (· ++ vs.toArray))).objs.size = s.heap.objs.size + 1 := by
    rw [Heap.size_update, size_push']
  show wpAny _ _ _ _ _ { s with heap := copyHeap s.heap vs }
  rw [hsz]
  refine wpAny_bind (wpAny_holding (wpAny_call_entry slot_list_sort ⟨_, copyHeap_at s.heap vs, rfl⟩ entry_list_sort ?body (args_list_sort _)))
  case body =>
    show wpAny (model prog w) A.in1.in1 (Builtin.«list.sort» ⟨[.ref (s.heap.objs.size + 1)], []⟩) _ _ _
    refine wpAny_mono (list_sort_vals (s := { s with heap := copyHeap s.heap vs }) (P := fun f s' => f = .done (.ret .none) ∧ Q (.ref (s.heap.objs.size + 1)) s') (copyHeap_at s.heap vs) S hL ⟨rfl, h⟩) (fun f s' hf => ?_) fun _ _ e => e
    obtain ⟨rfl, hq⟩ := hf
    exact ⟨_, rfl, wpAny_pure ⟨_, rfl, hq⟩⟩
open PySem.W in
theorem sortedT_data {β : Type} {vs : List Value} {bs : List β} {enc : β → PyData} {Rl : Value → β → Prop} {l : Addr} {Q : Value → Shared → Prop} (hl : s.heap.IsTuple l vs.toArray) (e : EachIs Rl vs bs) (er : EachIs (fun v b => ∃ as, Reads s.heap v (enc b) as) vs bs) (hal : AllAlike (bs.map enc)) (hk : Sortable (bs.map enc)) (hL : bs.length ≤ sizeLine)
    (hu : ∀ b, b ∈ bs → A.units + 2 + (enc b).depth < cLine) (h : ∀ out, out.length = bs.length → EachIs Rl out (bs.mergeSort (dataLe false enc)) → Q (.ref (s.heap.objs.size + 1)) { s with heap := sortedAll s.heap vs (List.toArray out) }) :
    wpAny (model prog w) A (call (.builtin "sorted") [.ref l]) Q E s := by
  have er' : EachIs (fun v b => ∃ as, Reads (sortingHeap (copyHeap s.heap vs) (s.heap.objs.size + 1) vs) v (enc b) as) vs bs := er.mono fun _ _ ⟨as, r⟩ => ⟨as, PyProof.Rows.Reads.keeps (fun _ _ => sorting_copy_old) r⟩
  exact sortedT_vals hl (SortsAt.data (s := { s with heap := sortingHeap (copyHeap s.heap vs) (s.heap.objs.size + 1) vs }) (each_map (R := fun v d => ∃ as, Reads (sortingHeap (copyHeap s.heap vs) (s.heap.objs.size + 1) vs) v d as) enc er') hal hk (bound_map hu)) (by rw [e.length]; exact hL)
    (h _ (by rw [sortVals_length false rfl]; exact e.length) (sortVals_data false e er' hal))
end

/-! ### the functions on data -/
def seqOf : D → Option (List D)
  | .list xs => some xs
  | .tuple xs => some xs
  | _ => none
def asInt : D → Option Int
  | .int i => some i
  | _ => none
def asInts : List D → Option (List Int)
  | [] => some []
  | d :: ds => (asInt d).bind fun i => (asInts ds).bind fun r => some (i :: r)
def asBl : D → Option Bool
  | .bool b => some b
  | _ => none
def asBools : List D → Option (List Bool)
  | [] => some []
  | d :: ds => (asBl d).bind fun i => (asBools ds).bind fun r => some (i :: r)
def onSeq (k : List D → R D) : List D → R D
  | [d] => match seqOf d with | some xs => k xs | none => .bad
  | _ => .bad
def bSum : List D → R D := onSeq fun xs => match asInts xs with | some ns => .ok (.int ns.sum) | none => .bad
def bAll : List D → R D
  | [.list xs] => match asBools xs with | some bs => .ok (.bool (bs.all id)) | none => .bad
  | _ => .bad
def bAny : List D → R D
  | [.list xs] => match asBools xs with | some bs => .ok (.bool (bs.any id)) | none => .bad
  | _ => .bad
def alikeB (ds : List D) : Bool := ds.all fun x => !isNone x && ds.all fun y => PySem.W.alike x y
def bestOk (ds : List D) : Bool := alikeB ds && decide (PyData.depthAll ds ≤ 64) && PyData.plainAll ds
def bMin : List D → R D := onSeq fun xs => match xs with | [] => .bad | x :: r => if bestOk (x :: r) then .ok (PySem.W.minD x r) else .bad
def bMax : List D → R D := onSeq fun xs => match xs with | [] => .bad | x :: r => if bestOk (x :: r) then .ok (PySem.W.maxD x r) else .bad
def tupCons : D → Bool
  | .tuple (_ :: _) => true
  | _ => false
def noTup : D → Bool
  | .tuple _ => false
  | _ => true
def sortOk (ds : List D) : Bool := bestOk ds && (ds.all tupCons || ds.all noTup) && smallLen ds.length
def sortD (ds : List D) : List D := ds.mergeSort (PySem.W.dataLe false id)
def bSorted : List D → R (List D)
  | [d] => match seqOf d with | some xs => if sortOk xs then .ok (sortD xs) else .bad | none => .bad
  | _ => .bad
def bList : List D → R (List D)
  | [d] => match seqOf d with | some xs => .ok xs | none => .bad
  | _ => .bad
def bTuple : List D → R D := onSeq fun xs => .ok (.tuple xs)

theorem asInts_map : ∀ {ds : List D} {ns : List Int}, asInts ds = some ns → ds = ns.map PyData.int
  | [], _, h => by cases h; rfl
  | d :: ds, ns, h => by
    simp only [asInts] at h
    cases d with
    | int i =>
      simp only [asInt, Option.bind_some] at h
      cases e : asInts ds with
      | none => rw [e] at h; cases h
      | some r => rw [e] at h; cases h; rw [asInts_map e]; rfl
    | _ => simp [asInt] at h
theorem asBools_map : ∀ {ds : List D} {ns : List Bool}, asBools ds = some ns → ds = ns.map PyData.bool
  | [], _, h => by cases h; rfl
  | d :: ds, ns, h => by
    simp only [asBools] at h
    cases d with
    | bool i =>
      simp only [asBl, Option.bind_some] at h
      cases e : asBools ds with
      | none => rw [e] at h; cases h
      | some r => rw [e] at h; cases h; rw [asBools_map e]; rfl
    | _ => simp [asBl] at h
theorem alikeB_of {ds : List D} (h : alikeB ds = true) : PySem.W.AlikeAll ds := by
  unfold alikeB at h
  rw [List.all_eq_true] at h
  refine ⟨fun x hx y hy => ?_, fun x hx => ?_⟩
  · have := h x hx
    rw [Bool.and_eq_true, List.all_eq_true] at this
    exact this.2 y hy
  · have := h x hx
    rw [Bool.and_eq_true] at this
    exact notNone this.1
theorem bestOk_of {ds : List D} (h : bestOk ds = true) : PySem.W.AlikeAll ds ∧ PyData.depthAll ds ≤ 64 ∧ PyData.plainAll ds = true := by
  unfold bestOk at h
  rw [Bool.and_eq_true, Bool.and_eq_true] at h
  exact ⟨alikeB_of h.1.1, of_decide_eq_true h.1.2, h.2⟩
theorem plainAll_mem : ∀ {ds : List D} {d : D}, d ∈ ds → PyData.plainAll ds = true → d.plain = true
  | [], _, h, _ => by cases h
  | x :: xs, d, h, p => by
    simp only [PyData.plainAll, Bool.and_eq_true] at p
    rcases List.mem_cons.mp h with e | e
    · subst e; exact p.1
    · exact plainAll_mem e p.2
theorem plainAll_ints : ∀ ns : List Int, PyData.plainAll (ns.map PyData.int) = true
  | [] => rfl
  | n :: ns => by simp only [List.map_cons, PyData.plainAll, PyData.plain, plainAll_ints ns, Bool.and_self]
section
variable {X : Cx}
/-- what a sequence of data is to the machine -/
theorem seq_read {pins : List (Addr × Obj)} {σ : L2.St} {H : Hp} {s : Shared} {Z : Addr → Prop} {x : V} {v : Value} {d : D} {xs : List D} (I : Inv X pins σ H s) (p : Rp X.K (cut Z H) x d) (r : RelV x v) (h : seqOf d = some xs) :
    ∃ (a : Addr) (vs : List V) (its : List Value), x = .ref a ∧ v = .ref a ∧ RpA X.K (cut Z H) vs xs ∧ Vals vs its ∧ vs.length ≤ sizeLine ∧ (PyData.plainAll xs = true → ∃ as, ReadsAll s.heap its xs as) ∧
      ((d = .list xs ∧ s.heap.IsList a its.toArray ∧ SqL X.K H a vs) ∨ (d = .tuple xs ∧ s.heap.IsTuple a its.toArray ∧ SqT X.K (cut Z H) a vs)) := by
  cases p with
  | @lst a vs ds h1 h2 =>
    cases h
    cases r
    obtain ⟨its, rv, hl, hz⟩ := I.list (SqL.of (cut_some.mp h1).2)
    have hr : PyData.plainAll xs = true → ∃ as, ReadsAll s.heap its xs as := fun pl => Dp.readsAll I _ _ its (RpA.dp (h2.up Same.uncut) pl) rv
    exact ⟨a, vs, its, rfl, rfl, h2, rv, hz, hr, .inl ⟨rfl, hl.isList, SqL.of (cut_some.mp h1).2⟩⟩
  | @tup a vs ds h1 h2 =>
    cases h
    cases r
    obtain ⟨its, rv, hl, hz⟩ := I.tuple (SqT.same h1.sqT Same.uncut)
    have hr : PyData.plainAll xs = true → ∃ as, ReadsAll s.heap its xs as := fun pl => Dp.readsAll I _ _ its (RpA.dp (h2.up Same.uncut) pl) rv
    exact ⟨a, vs, its, rfl, rfl, h2, rv, hz, hr, .inr ⟨rfl, show s.heap.IsTuple a its.toArray from hl, h1.sqT⟩⟩
  | _ => cases h
/-- a built-in over one sequence -/
theorem onSeq_call {id : String} {k : List D → R D}
    (h : ∀ (pins : List (Addr × Obj)) (s : Shared) (σ : L2.St) (H : Hp) (Z : Addr → Prop) (x : V) (v : Value) (d : D) (xs : List D) (r : D) (Q : VK), Inv X pins σ H s → ZD Z H → Rp X.K (cut Z H) x d → RelV x v → seqOf d = some xs → k xs = .ok r → (∀ v H', Same H H' → Rp X.K (cut Z H') v r → Q v H') →
      wpAny (model X.prog X.w) X.A (call (.builtin id) [v]) (EP X pins σ Q) X.xe s) : CallR X (.builtin id) (rDC X.K (onSeq k)) := by
  intro pins s σ H vs us Q I r q
  obtain ⟨Z, ds, z, ps, q⟩ := q
  match ds, ps, q with
  | [], _, q => exact (show False from q).elim
  | [d], .cons p1 .nil, q =>
    obtain ⟨u, rfl, ru⟩ := vals1 r
    simp only [onSeq] at q
    cases e : seqOf d with
    | none => rw [e] at q; exact q.elim
    | some xs =>
      rw [e] at q
      simp only at q
      cases e2 : k xs with
      | ok rr => rw [e2] at q; exact h pins s σ H Z _ u d xs rr Q I z p1 ru e e2 q
      | exc c => rw [e2] at q; exact q.elim
      | bad => rw [e2] at q; exact q.elim
  | _ :: _ :: _, _, q => exact (show False from q).elim
theorem cr_bSum (hc : X.calm = true) : CallR X (.builtin "sum") (rDC X.K bSum) := by
  refine onSeq_call fun pins s σ H Z x v d xs r Q I z p rv hs hk q => ?_
  obtain ⟨a, vs, its, rfl, rfl, ps, vv, hz, hrp, hd⟩ := seq_read I p rv hs
  split at hk
  · next ns e =>
    cases hk
    have e1 := asInts_map e
    subst e1
    have e2 := ps.ints
    subst e2
    rcases hd with ⟨_, hl, _⟩ | ⟨_, hl, _⟩
    · exact sum_raw (I.ok.hd hc) hl vv.ints fun h' tk t' hk => ⟨.int _, H, I.kept hk, ⟨_, rfl⟩, q _ _ (Same.refl H) (.int _)⟩
    · exact sum_rawT (I.ok.hd hc) hl vv.ints fun h' tk t' hk => ⟨.int _, H, I.kept hk, ⟨_, rfl⟩, q _ _ (Same.refl H) (.int _)⟩
  · cases hk
/-- the value of an item that reads as r -/
theorem item_rep {K : PySem.W.Frag} {H : Hp} {h h' : Heap} {vs : List V} {its : List Value} {xs : List D} {as bs : List Addr} {r : D} {v : Value} {i : Nat} (ps : RpA K H vs xs) (pl : PyData.plainAll xs = true) (vv : Vals vs its) (hr : ReadsAll h its xs as) (kp : ∀ b o, h.get? b = some o → h'.get? b = some o)
    (hi : its.toArray[i]? = some v) (h2 : Reads h' v r bs) : ∃ x, RelV x v ∧ Rp K H x r := by
  have hi' : its[i]? = some v := by rw [← Array.getElem?_toList] at hi; exact hi
  have hlt : i < its.length := by
    rcases Nat.lt_or_ge i its.length with q | q
    · exact q
    · rw [List.getElem?_eq_none q] at hi'; cases hi'
  have hlv : i < vs.length := by rw [vv.length]; exact hlt
  obtain ⟨u, e1, e2⟩ := vv.get (List.getElem?_eq_getElem hlv)
  rw [hi'] at e1
  cases e1
  obtain ⟨d, e3, e4⟩ := ps.getV (List.getElem?_eq_getElem hlv)
  obtain ⟨bs2, r2, hlt2, _, _⟩ := PySem.W.readsAll_at hr i v hi'
  have e5 : xs.getD i .none = d := by rw [List.getD_eq_getElem?_getD, e3]; rfl
  rw [e5] at r2
  have := plain_unique d r v bs2 bs (plainAll_mem (List.mem_of_getElem? e3) pl) (PySem.W.reads_keeps kp r2) h2
  rw [← this]
  exact ⟨_, e2, e4⟩
theorem cr_bMin (hc : X.calm = true) (hu : X.A.units + 80 < cLine) : CallR X (.builtin "min") (rDC X.K bMin) := by
  refine onSeq_call fun pins s σ H Z x v d xs r Q I z p rv hs hk q => ?_
  obtain ⟨a, vs, its, rfl, rfl, ps, vv, hz, hrp, hd⟩ := seq_read I p rv hs
  cases xs with
  | nil => cases hk
  | cons y ys =>
    simp only at hk
    split at hk
    · next c =>
      cases hk
      obtain ⟨c1, c2, c3⟩ := bestOk_of c
      obtain ⟨as, hr⟩ := hrp c3
      have fin : ∀ (i : Nat) (v : Value) (h' : Heap) (tk : Nat) (bs : List Addr), its.toArray[i]? = some v → Reads h' v (PySem.W.minD y ys) bs → (∀ b o, s.heap.get? b = some o → h'.get? b = some o) → EP X pins σ Q v { s with heap := h', toks := tk } := fun i v h' tk bs hi h2 kp => by
        obtain ⟨x, r1, r2⟩ := item_rep ps c3 vv hr kp hi h2
        exact ⟨x, H, I.kept kp, r1, q _ _ (Same.refl H) r2⟩
      rcases hd with ⟨_, hl, _⟩ | ⟨_, hl, _⟩
      · exact PySem.W.min_list_data (I.ok.hd hc) hl hr c1 (by omega) fin
      · exact PySem.W.min_tuple_data (I.ok.hd hc) hl hr c1 (by omega) fin
    · cases hk
theorem cr_bMax (hc : X.calm = true) (hu : X.A.units + 80 < cLine) : CallR X (.builtin "max") (rDC X.K bMax) := by
  refine onSeq_call fun pins s σ H Z x v d xs r Q I z p rv hs hk q => ?_
  obtain ⟨a, vs, its, rfl, rfl, ps, vv, hz, hrp, hd⟩ := seq_read I p rv hs
  cases xs with
  | nil => cases hk
  | cons y ys =>
    simp only at hk
    split at hk
    · next c =>
      cases hk
      obtain ⟨c1, c2, c3⟩ := bestOk_of c
      obtain ⟨as, hr⟩ := hrp c3
      have fin : ∀ (i : Nat) (v : Value) (h' : Heap) (tk : Nat) (bs : List Addr), its.toArray[i]? = some v → Reads h' v (PySem.W.maxD y ys) bs → (∀ b o, s.heap.get? b = some o → h'.get? b = some o) → EP X pins σ Q v { s with heap := h', toks := tk } := fun i v h' tk bs hi h2 kp => by
        obtain ⟨x, r1, r2⟩ := item_rep ps c3 vv hr kp hi h2
        exact ⟨x, H, I.kept kp, r1, q _ _ (Same.refl H) r2⟩
      rcases hd with ⟨_, hl, _⟩ | ⟨_, hl, _⟩
      · exact PySem.W.max_list_data (I.ok.hd hc) hl hr c1 (by omega) fin
      · exact PySem.W.max_tuple_data (I.ok.hd hc) hl hr c1 (by omega) fin
    · cases hk
theorem cr_bAll (hc : X.calm = true) : CallR X (.builtin "all") (rDC X.K bAll) := by
  intro pins s σ H vs us Q I r q
  obtain ⟨Z, ds, z, ps, q⟩ := q
  unfold bAll at q
  split at q
  · next r2 hh =>
    split at hh
    · cases ps with
      | cons p1 pn =>
        cases pn
        cases p1 with
        | lst h1 h2 =>
          split at hh
          · next bs e =>
            cases hh
            have e1 := asBools_map e
            subst e1
            have e2 := h2.bools
            subst e2
            exact cr_all hc pins s σ H _ us Q I r ⟨_, bs, rfl, SqL.of (cut_some.mp h1).2, q _ _ (Same.refl H) (.bl _)⟩
          · cases hh
    · cases hh
  · exact q.elim
theorem cr_bAny (hc : X.calm = true) : CallR X (.builtin "any") (rDC X.K bAny) := by
  intro pins s σ H vs us Q I r q
  obtain ⟨Z, ds, z, ps, q⟩ := q
  unfold bAny at q
  split at q
  · next r2 hh =>
    split at hh
    · cases ps with
      | cons p1 pn =>
        cases pn
        cases p1 with
        | lst h1 h2 =>
          split at hh
          · next bs e =>
            cases hh
            have e1 := asBools_map e
            subst e1
            have e2 := h2.bools
            subst e2
            exact cr_any hc pins s σ H _ us Q I r ⟨_, bs, rfl, SqL.of (cut_some.mp h1).2, q _ _ (Same.refl H) (.bl _)⟩
          · cases hh
    · cases hh
  · exact q.elim
end
end PL

set_option Elab.async false
set_option linter.all false
set_option autoImplicit false
set_option maxRecDepth 100000
/-! PL8: sorted, list, tuple, isinstance, count, list(range) -/
namespace PL
open PySem PySem.Spec PySem.SeqAt PyProof.Rows L2
section
variable {X : Cx} {W : WX} {K : PySem.W.Frag} {H : Hp}
/-- values, what they stand for, the machine's: side by side -/
theorem each_zip : ∀ {ds : List D} {vs : List V} {its : List Value}, RpA K H vs ds → Vals vs its → PySem.W.EachIs (fun (v : Value) (p : V × D) => RelV p.1 v ∧ Rp K H p.1 p.2) its (vs.zip ds) := by
  intro ds
  induction ds with
  | nil => intro vs its h r; cases h; cases r; exact .nil
  | cons d ds ih =>
    intro vs its h r
    cases h with
    | cons h1 h2 =>
      cases r with
      | cons r1 r2 => exact .cons ⟨r1, h1⟩ (ih h2 r2)
theorem zip_snd : ∀ {vs : List V} {ds : List D}, vs.length = ds.length → (vs.zip ds).map (·.2) = ds
  | [], [], _ => rfl
  | _ :: vs, d :: ds, h => by rw [List.zip_cons_cons, List.map_cons, zip_snd (by simpa using h)]
  | [], _ :: _, h => by simp at h
  | _ :: _, [], h => by simp at h
theorem each_vals : ∀ {ps : List (V × D)} {out : List Value}, PySem.W.EachIs (fun (v : Value) (p : V × D) => RelV p.1 v ∧ Rp K H p.1 p.2) out ps → Vals (ps.map (·.1)) out ∧ RpA K H (ps.map (·.1)) (ps.map (·.2))
  | _, _, .nil => ⟨.nil, .nil⟩
  | _, _, .cons h1 h2 => ⟨.cons h1.1 (each_vals h2).1, .cons h1.2 (each_vals h2).2⟩
theorem each_reads {h : Heap} : ∀ {ds : List D} {vs : List V} {its : List Value} {as : List Addr}, vs.length = ds.length → ReadsAll h its ds as → PySem.W.EachIs (fun (v : Value) (p : V × D) => ∃ as, Reads h v p.2 as) its (vs.zip ds) := by
  intro ds
  induction ds with
  | nil =>
    intro vs its as e r
    cases vs with
    | nil => cases r; exact .nil
    | cons v vs => simp at e
  | cons d ds ih =>
    intro vs its as e r
    cases vs with
    | nil => simp at e
    | cons v vs =>
      cases r with
      | cons r1 r2 => exact .cons ⟨_, r1⟩ (ih (by simpa using e) r2)
theorem sortOk_of {ds : List D} (h : sortOk ds = true) : PySem.W.AllAlike ds ∧ PySem.W.Sortable ds ∧ PyData.depthAll ds ≤ 64 ∧ ds.length ≤ sizeLine ∧ PyData.plainAll ds = true := by
  unfold sortOk at h
  rw [Bool.and_eq_true, Bool.and_eq_true] at h
  obtain ⟨a, b, b2⟩ := bestOk_of h.1.1
  refine ⟨fun x hx y hy => a.1 x hx y hy, ?_, b, smallLen_le h.2, b2⟩
  have h2 := h.1.2
  rw [Bool.or_eq_true, List.all_eq_true, List.all_eq_true] at h2
  rcases h2 with h2 | h2
  · refine .inl fun d hd => ?_
    have := h2 d hd
    unfold tupCons at this
    split at this
    · exact ⟨_, _, rfl⟩
    · cases this
  · refine .inr fun d hd => ⟨a.2 d hd, fun xs e => ?_⟩
    have := h2 d hd
    rw [e] at this
    cases this
theorem depthAll_mem {ds : List D} {d : D} (h : d ∈ ds) : d.depth ≤ PyData.depthAll ds := by
  induction ds with
  | nil => cases h
  | cons x xs ih =>
    simp only [PyData.depthAll]
    rcases List.mem_cons.mp h with e | e
    · subst e; omega
    · have := ih e; omega
theorem cr_bSorted (hu : X.A.units + 80 < cLine) : CallR X (.builtin "sorted") (rNC X.K bSorted) := by
  intro pins s σ H vs us Q I r q
  obtain ⟨Z, ds, z, ps, q⟩ := q
  match ds, ps, q with
  | [], _, q => exact (show False from q).elim
  | _ :: _ :: _, _, q => exact (show False from q).elim
  | [d], .cons p1 .nil, q =>
    obtain ⟨u, rfl, ru⟩ := vals1 r
    simp only [bSorted] at q
    cases e : seqOf d with
    | none => rw [e] at q; exact q.elim
    | some xs =>
      rw [e] at q
      simp only at q
      split at q
      · next es hes =>
        split at hes
        · next c =>
          cases hes
          obtain ⟨a, vs, its, rfl, rfl, p2, vv, hz, hrp, hd⟩ := seq_read I p1 ru e
          obtain ⟨c1, c2, c3, c4, c5⟩ := sortOk_of c
          obtain ⟨as, hr⟩ := hrp c5
          have hl := p2.length
          have e1 := each_zip p2 vv
          have e2 := each_reads (h := s.heap) hl hr
          have zs := zip_snd hl
          have fin : ∀ out : List Value, out.length = (vs.zip xs).length → PySem.W.EachIs (fun (v : Value) (p : V × D) => RelV p.1 v ∧ Rp X.K (cut Z H) p.1 p.2) out ((vs.zip xs).mergeSort (PySem.W.dataLe false (·.2))) → EP X pins σ Q (.ref (s.heap.objs.size + 1)) { s with heap := sortedAll s.heap its (List.toArray out) } := fun out ho he => by
            obtain ⟨k1, k2⟩ := each_vals he
            have em : ((vs.zip xs).mergeSort (PySem.W.dataLe false (·.2))).map (·.2) = sortD xs := by
              unfold sortD
              exact (List.map_mergeSort (r := PySem.W.dataLe false fun p : V × D => p.2) (s := PySem.W.dataLe false id) (f := fun p : V × D => p.2) (fun a _ b _ => rfl)).trans (by rw [zs])
            rw [em] at k2
            obtain ⟨ep, he'⟩ := PyProof.Rows.sortedAll_at s.heap its out.toArray
            have hn : H (s.heap.objs.size + 1) = none := I.hok.fresh (Nat.le_succ _)
            have hlen : (((vs.zip xs).mergeSort (PySem.W.dataLe false (·.2))).map (·.1)).length ≤ sizeLine := by
              rw [k1.length, ho, List.length_zip]; omega
            refine ⟨.ref _, upd H (s.heap.objs.size + 1) (.lst _), I.laid (t' := s.toks) (fun _ _ => PyProof.Rows.sortedAll_old) (Nat.le_succ _) ⟨hlen, out, ep, k1, he'⟩, rfl, ?_⟩
            exact q _ _ _ (Same.new hn) hn upd_same (rep_new hn k2)
          have bnd : ∀ b, b ∈ vs.zip xs → X.A.units + 2 + b.2.depth < cLine := fun b hb => by
            have : b.2 ∈ xs := by rw [← zs]; exact List.mem_map.mpr ⟨b, hb, rfl⟩
            have := depthAll_mem this
            omega
          have zl : (vs.zip xs).length ≤ sizeLine := by rw [List.length_zip]; omega
          rcases hd with ⟨_, hlst, _⟩ | ⟨_, htup, _⟩
          · exact PySem.W.sorted_data hlst e1 e2 (by rw [zs]; exact c1) (by rw [zs]; exact c2) zl bnd fin
          · exact sortedT_data htup e1 e2 (by rw [zs]; exact c1) (by rw [zs]; exact c2) zl bnd fin
        · cases hes
      · exact q.elim
theorem cr_bList : CallR X (.type "list") (rNC X.K bList) := by
  intro pins s σ H vs us Q I r q
  obtain ⟨Z, ds, z, ps, q⟩ := q
  match ds, ps, q with
  | [], _, q => exact (show False from q).elim
  | _ :: _ :: _, _, q => exact (show False from q).elim
  | [d], .cons p1 .nil, q =>
    cases p1 with
    | lst h1 h2 =>
      refine call_list_of pins s σ H _ us Q I r ⟨_, _, rfl, .inl (SqL.of (cut_some.mp h1).2), fun p hp => ?_⟩
      exact q p _ _ (Same.new hp) hp upd_same (rep_new hp h2)
    | tup h1 h2 =>
      refine call_list_of pins s σ H _ us Q I r ⟨_, _, rfl, .inr (SqT.same h1.sqT Same.uncut), fun p hp => ?_⟩
      exact q p _ _ (Same.new hp) hp upd_same (rep_new hp h2)
    | _ => exact (show False from q).elim
theorem cr_bTuple : CallR X (.type "tuple") (rDC X.K bTuple) := by
  intro pins s σ H vs us Q I r q
  obtain ⟨Z, ds, z, ps, q⟩ := q
  match ds, ps, q with
  | [], _, q => exact (show False from q).elim
  | _ :: _ :: _, _, q => exact (show False from q).elim
  | [d], .cons p1 .nil, q =>
    cases p1 with
    | lst h1 h2 =>
      refine call_tupleF pins s σ H _ us Q I r ⟨_, _, rfl, .inl ⟨SqL.of (cut_some.mp h1).2, fun p o hp hd => ?_⟩⟩
      exact q _ _ (Same.new hp) (.tup (.inl ⟨o, cut_some.mpr ⟨z.fresh hp, upd_same⟩, hd⟩) (h2.up (Same.cut (Same.new hp))))
    | tup h1 h2 =>
      refine call_tupleF pins s σ H _ us Q I r ⟨_, _, rfl, .inr ⟨SqT.same h1.sqT Same.uncut, ?_⟩⟩
      exact q _ _ (Same.refl H) (.tup h1 h2)
    | _ => exact (show False from q).elim

/-! ### isinstance(x, T), T a built-in type -/
def tyName : D → String
  | .none => "NoneType"
  | .bool _ => "bool"
  | .int _ => "int"
  | .str _ => "str"
  | .list _ => "list"
  | .tuple _ => "tuple"
  | .dict _ => "dict"
def isaT (T : String) (d : D) : R D := match kitB (tyName d) T with
  | some b => .ok (.bool b)
  | none => .bad
theorem tyX_of {Z : Addr → Prop} {x : V} {d : D} (p : Rp K (cut Z H) x d) : TyX K H x (.type (tyName d)) := by
  cases p with
  | non => exact .base .non
  | bl b => exact .base (.bl b)
  | int i => exact .base (.int i)
  | str x => exact .base (.str x)
  | lst h1 h2 => exact .base (.lst (cut_some.mp h1).2)
  | tup h1 h2 =>
    rcases SqD.same h1 Same.uncut with ⟨o, h, _⟩ | ⟨o, its, n, h, c, _⟩
    · exact .fTuple h
    · exact .kTuple h c
  | dct h1 h2 => exact .fDict (cut_some.mp h1).2
@[simp] def sIsa (T : String) (f : Env → R D) : Env → R D := fun ρ => (f ρ).bind fun d => (isaT T d).nox
theorem fe_isa {x : Str} {T : String} {tx : Str} {p p2 pos : Pos} {e : Expr} {f : Env → R D} (hg : Gl X x) (hm : X.mg x = none) (hv : bootBuiltins x = some (.builtin "isinstance")) (hg2 : Gl X tx) (hm2 : X.mg tx = none) (hv2 : bootBuiltins tx = some (.type T)) (ha : FE X W e f)
    (hn : x ≠ "__name__" := by decide) (hdb : (x == ("__debug__" : Str)) = false := by decide) (hn2 : tx ≠ "__name__" := by decide) (hdb2 : (tx == ("__debug__" : Str)) = false := by decide)
    (he1 : starEach [e, .Name tx p2] X.env = (false, eval e X.env) :: starEach [.Name tx p2] X.env := by rfl) (hpl : (backTo pos (starEach [.Name tx p2] X.env)).any (·.1) = false := by rfl)
    (he2 : starEach [.Name tx p2] X.env = (false, eval (.Name tx p2) X.env) :: starEach [] X.env := by rfl) : FE X W (.Call (.Name x p) [e, .Name tx p2] [] pos) (sIsa T f) :=
  ⟨PE.imp (pe_callB call_isi hg hm hv (pa_cons ha.pe (pa_cons (pe_bltn (v := .ty T) hg2 hm2 hv2 rfl hn2 hdb2) pa_nil he2) he1) hn hdb he1 hpl) fun σ H Q ⟨Z, ρ, e, q⟩ => by
    refine tF.first e q fun d r q1 v H1 s1 p1 => ?_
    obtain ⟨r2, e2, q2⟩ := (q1.up s1).nox_of
    unfold isaT at e2
    split at e2
    · next b hb =>
      cases e2
      exact ⟨v, .ty T, .type (tyName d), .type T, b, rfl, .ty T, tyX_of p1, kit_ty hb, q2 _ _ (Same.refl H1) (.bl b)⟩
    · cases e2⟩

/-! ### xs.count(x) -/
def mCount : D → List D → R D
  | .list xs, [d] => if shp (.list xs) && shp d then .ok (.int (xs.countP fun y => PyData.eqv y d)) else .bad
  | .tuple xs, [d] => if shp (.tuple xs) && shp d then .ok (.int (xs.countP fun y => PyData.eqv y d)) else .bad
  | _, _ => .bad
/-- a method that reads: its receiver, its arguments -/
def rDM (K : PySem.W.Frag) (g : D → List D → R D) : V → List V → Hp → VK → Prop := fun x xs H Q => ∃ Z d ds, ZD Z H ∧ Rp K (cut Z H) x d ∧ RpA K (cut Z H) xs ds ∧ match g d ds with
  | .ok r => ∀ v H', Same H H' → Rp K (cut Z H') v r → Q v H'
  | _ => False
theorem mt_countL (hu : X.A.units + 80 < cLine) : MtR X "list.count" (rDM X.K fun d ds => match d with | .list xs => mCount (.list xs) ds | _ => .bad) := by
  intro pins s σ H x xs v us Q I rx rxs h
  obtain ⟨Z, d, ds, z, p1, ps, q⟩ := h
  cases p1 with
  | @lst a vs es h1 h2 =>
    match ds, ps, q with
    | [], _, q => exact (show False from q).elim
    | _ :: _ :: _, _, q => exact (show False from q).elim
    | [y], .cons py .nil, q =>
      cases rx
      obtain ⟨u, rfl, ru⟩ := rxs.one
      simp only [mCount] at q
      split at q
      · next hh =>
        split at hh
        · next c =>
          cases hh
          rw [Bool.and_eq_true] at c
          obtain ⟨its, rv, hl, hz⟩ := I.list (SqL.of (cut_some.mp h1).2)
          obtain ⟨as, hr⟩ := Dp.readsAll I _ _ its (RpA.dp (h2.up Same.uncut) (by have := shp_plain c.1; simpa only [PyData.plain] using this)) rv
          obtain ⟨bs, r2⟩ := Dp.reads I y _ u ((py.up Same.uncut).toDp (shp_plain c.2)) ru
          have dd := shp_depth c.2
          exact count_list_data hl.isList (show ReadsAll s.heap its.toArray.toList es as from hr) r2 (by have := shp_plain c.1; simpa only [PyData.plain] using this) (shp_plain c.2) (by omega) ⟨.int _, H, I.tok _, ⟨_, rfl⟩, q _ _ (Same.refl H) (.int _)⟩
        · cases hh
      · exact q.elim
  | _ => exact (show False from q).elim
theorem mt_countT (hu : X.A.units + 80 < cLine) : MtR X "tuple.count" (rDM X.K fun d ds => match d with | .tuple xs => mCount (.tuple xs) ds | _ => .bad) := by
  intro pins s σ H x xs v us Q I rx rxs h
  obtain ⟨Z, d, ds, z, p1, ps, q⟩ := h
  cases p1 with
  | @tup a vs es h1 h2 =>
    match ds, ps, q with
    | [], _, q => exact (show False from q).elim
    | _ :: _ :: _, _, q => exact (show False from q).elim
    | [y], .cons py .nil, q =>
      cases rx
      obtain ⟨u, rfl, ru⟩ := rxs.one
      simp only [mCount] at q
      split at q
      · next hh =>
        split at hh
        · next c =>
          cases hh
          rw [Bool.and_eq_true] at c
          obtain ⟨its, rv, hl, hz⟩ := I.tuple (SqT.same h1.sqT Same.uncut)
          obtain ⟨as, hr⟩ := Dp.readsAll I _ _ its (RpA.dp (h2.up Same.uncut) (by have := shp_plain c.1; simpa only [PyData.plain] using this)) rv
          obtain ⟨bs, r2⟩ := Dp.reads I y _ u ((py.up Same.uncut).toDp (shp_plain c.2)) ru
          have dd := shp_depth c.2
          exact count_tuple_data (show s.heap.IsTuple _ its.toArray from hl) (show ReadsAll s.heap its.toArray.toList es as from hr) r2 (by have := shp_plain c.1; simpa only [PyData.plain] using this) (shp_plain c.2) (by omega) ⟨.int _, H, I.tok _, ⟨_, rfl⟩, q _ _ (Same.refl H) (.int _)⟩
        · cases hh
      · exact q.elim
  | _ => exact (show False from q).elim
/-- a value's type, its object without a dict -/
theorem type_of {pins : List (Addr × Obj)} {σ : L2.St} {s : Shared} {Z : Addr → Prop} {x : V} {v : Value} {d : D} (I : Inv X pins σ H s) (p : Rp X.K (cut Z H) x d) (r : RelV x v) (hn : d ≠ .none) (hb : ∀ b, d ≠ .bool b) :
    s.TypeIs v (tyName d) ∧ ∀ a, v = .ref a → ∃ ob, s.heap.get? a = some ob ∧ ob.dict = none := by
  cases p with
  | non => exact absurd rfl hn
  | bl b => exact absurd rfl (hb b)
  | int i => obtain ⟨t, rfl⟩ := r; exact ⟨typeIs_int s i t, fun _ e => nomatch e⟩
  | str z => obtain ⟨t, rfl⟩ := r; exact ⟨typeIs_str s z t, fun _ e => nomatch e⟩
  | lst h1 h2 =>
    cases r
    obtain ⟨its, _, ⟨o, n, e, c, hd, _⟩, _⟩ := I.list (SqL.of (cut_some.mp h1).2)
    exact ⟨⟨o, e, c⟩, fun a q => by cases q; exact ⟨o, e, hd⟩⟩
  | tup h1 h2 =>
    cases r
    rcases SqD.same h1 Same.uncut with ⟨o, h, hd⟩ | ⟨o, its, n, h, c, hd, _⟩
    · obtain ⟨e, _, its, rv, ob, e2, c, _⟩ := I.hok _ _ h
      rw [e] at e2; cases e2
      exact ⟨⟨o, e, c⟩, fun a q => by cases q; exact ⟨o, e, hd⟩⟩
    · exact ⟨⟨o, I.kIn _ o h, c⟩, fun a q => by cases q; exact ⟨o, I.kIn _ o h, hd⟩⟩
  | dct h1 h2 =>
    cases r
    obtain ⟨_, e, hx, _⟩ := I.frzK (cut_some.mp h1).2
    exact ⟨⟨_, e, hx.1⟩, fun a q => by cases q; exact ⟨_, e, hx.2.1⟩⟩
/-- o.m(e, ..): a method of a built-in type that reads -/
@[simp] def sMeth (g : D → List D → R D) (f : Env → R D) (as : Env → R (List D)) : Env → R D := fun ρ => (f ρ).bind fun d => (as ρ).nox.bind fun ds => (g d ds).nox
/-- where the method of a datum is found -/
def MOk (X : Cx) (name : Str) (g : D → List D → R D) : Prop := ∀ d ds r, g d ds = .ok r → d ≠ .none ∧ (∀ b, d ≠ .bool b) ∧ ∃ id g', PlainAttrs (tyName d) ∧ PySem.Slot (tyName d) name id ∧ typeOf (.builtin id) = pure (.type "method_descriptor") ∧ MtR X id (rDM X.K g') ∧ g' d ds = .ok r
theorem fe_meth {name : Str} {o e : Expr} {es : List Expr} {f : Env → R D} {as : Env → R (List D)} {g : D → List D → R D} {apos cpos : Pos} (hm : MOk X name g) (ho : FE X W o f) (ha : FA X W (e :: es) as)
    (hbase : attributeBase o name X.env (eval o X.env) = eval o X.env := by rfl)
    (hfew : ((backTo cpos (starEach (e :: es) X.env)).all (fun x => !x.1) && (backToKw cpos (keywordEach [] X.env)).all (fun x => x.1.isSome)
      && decide ((e :: es).length + ([] : List Keyword).length + (if ([] : List Keyword).isEmpty then 0 else 1) < 30)) = true := by rfl)
    (hline : (apos.endLine == cpos.line) = true := by rfl) (hs : starEach (e :: es) X.env = (false, eval e X.env) :: starEach es X.env := by rfl) (hplain : (backTo cpos (starEach es X.env)).any (·.1) = false := by rfl) :
    FE X W (.Call (.Attribute o name apos) (e :: es) [] cpos) (sMeth g f as) := by
  refine ⟨⟨fun pins s σ H Q I q => ?_⟩⟩
  have q' : tF X.K X.mg W f σ H (fun x H1 => ∃ Z ρ d ds r, EOk X.K Z H1 σ ρ ∧ Rp X.K (cut Z H1) x d ∧ as ρ = .ok ds ∧ g d ds = .ok r ∧ ∀ v H', Same H1 H' → Rp X.K (cut Z H') v r → Q v H') := by
    obtain ⟨Z, ρ, e, q⟩ := q
    refine tF.first e q fun d r1 q1 v H1 s1 p1 => ?_
    have q1 := q1.up s1
    cases r2 : as ρ with
    | ok ds =>
      rw [r2] at q1
      obtain ⟨r3, e3, q3⟩ := q1.nox_of
      exact ⟨Z, ρ, d, ds, r3, e.up s1, p1, r2, e3, q3⟩
    | exc c => rw [r2] at q1; exact q1.elim
    | bad => rw [r2] at q1; exact q1.elim
  refine wpAny_Call_method_late hbase hfew hline rfl (thn (ho.pe.run pins s σ H _ I q') fun v s1 ⟨x, H1, I1, r1, Z, ρ, d, ds, r, eo, p1, ea, eg, qq⟩ => ?_)
  obtain ⟨n1, n2, id, g', pa, slot, hty, mt, eg'⟩ := hm d ds r eg
  obtain ⟨h1, h2⟩ := type_of I1 p1 r1 n1 n2
  refine ⟨tyName d, id, pa, slot, hty, h1, h2, ?_⟩
  have hA := ha.pa.run cpos pins s1 σ H1 (fun vs H2 => ∃ Z d ds, ZD Z H2 ∧ Rp X.K (cut Z H2) x d ∧ RpA X.K (cut Z H2) vs ds ∧ match g' d ds with
      | .ok r => ∀ v H', Same H2 H' → Rp X.K (cut Z H') v r → Q v H'
      | _ => False) I1 ⟨Z, ρ, eo, by
        rw [ea]
        intro vs H2 s2 p2
        refine ⟨Z, d, ds, (eo.up s2).zd, p1.up (Same.cut s2), p2, ?_⟩
        rw [eg']
        exact fun v H' s3 p3 => qq v H' (s2.trans s3) p3⟩
  rw [hs] at hA ⊢
  refine Calls.callWith_builtin (by show (false || (backTo cpos (starEach es X.env)).any (·.1)) = false; rw [hplain] <;> rfl) (Calls.evalArgs_plain ?_)
  exact thn hA fun us s2 ⟨vs, H2, I2, r2, q2⟩ => mt pins s2 σ H2 x vs v us Q I2 r1 r2 q2
theorem mok_count (hu : X.A.units + 80 < cLine) : MOk X "count" mCount := by
  intro d ds r h
  cases d with
  | list xs => exact ⟨fun e => (nomatch e), fun _ e => (nomatch e), _, _, PySem.F.plainAttrs_list, PySem.F.slot_list_count, PySem.F.type_list_count, mt_countL hu, h⟩
  | tuple xs => exact ⟨fun e => (nomatch e), fun _ e => (nomatch e), _, _, PySem.F.plainAttrs_tuple, PySem.F.slot_tuple_count, PySem.F.type_tuple_count, mt_countT hu, h⟩
  | _ => simp [mCount] at h

/-! ### list(range(..)) -/
def intsD (lo : Int) (n : Nat) : List D := (List.range n).map fun i => .int (lo + (i : Nat))
def rgOk (a b : Int) : Bool := decide (-(2 ^ 62) ≤ a) && decide (a < 2 ^ 62) && decide (-(2 ^ 62) ≤ b) && decide (b < 2 ^ 62) && decide ((b - a).toNat ≤ 16777216)
theorem rgOk_of {a b : Int} (h : rgOk a b = true) : -(2 ^ 62) ≤ a ∧ a < 2 ^ 62 ∧ -(2 ^ 62) ≤ b ∧ b < 2 ^ 62 ∧ (b - a).toNat ≤ 16777216 := by
  unfold rgOk at h
  simp only [Bool.and_eq_true, decide_eq_true_eq] at h
  exact ⟨h.1.1.1.1, h.1.1.1.2, h.1.1.2, h.1.2, h.2⟩
def rangeOf : List D → R (Int × Int)
  | [.int n] => if rgOk 0 n then .ok (0, n) else .bad
  | [.int a, .int b] => if rgOk a b then .ok (a, b) else .bad
  | _ => .bad
@[simp] def sLRg (g : Env → R (List D)) : Env → R (List D) := fun ρ => (g ρ).bind fun ds => (rangeOf ds).bind fun p => .ok (intsD p.1 (p.2 - p.1).toNat)
theorem rgV_rep {H : Hp} (a b : Int) : RpA K H (rgV a b) (intsD a (b - a).toNat) := by
  unfold rgV intsD
  generalize (b - a).toNat = n
  generalize List.range n = l
  induction l with
  | nil => exact .nil
  | cons i l ih => exact .cons (.int _) ih
theorem fn_listRg1 {a : Expr} {f : Env → R D} {p p2 pos pos2 : Pos} (hc : X.calm = true) (hg : Gl X "list") (hm : X.mg "list" = none) (hg2 : Gl X "range") (hm2 : X.mg "range" = none) (ha : FE X W a f)
    (na : starEach [a] X.env = (false, eval a X.env) :: starEach [] X.env := by rfl) (na2 : starEach [.Call (.Name "range" p2) [a] [] pos2] X.env = (false, eval (.Call (.Name "range" p2) [a] [] pos2) X.env) :: starEach [] X.env := by rfl) :
    FN X W (.Call (.Name "list" p) [.Call (.Name "range" p2) [a] [] pos2] [] pos) (sLRg (sCons f sNil)) :=
  ⟨PE.imp (pe_listRg hc hg hm (prg_1 hg2 hm2 ha.pe na) na2) fun σ H Q ⟨Z, ρ, e, q⟩ => by
    refine ⟨Z, ρ, e, ?_⟩
    simp only [sLRg, sCons, sNil, R.bind] at q
    cases r : f ρ with
    | ok d =>
      rw [r] at q
      simp only at q
      intro v H1 s1 p1
      cases p1 with
      | int n =>
        simp only [rangeOf] at q
        by_cases c : rgOk 0 n = true
        · rw [if_pos c] at q
          obtain ⟨c1, c2, c3, c4, c5⟩ := rgOk_of c
          refine ⟨n, rfl, ⟨c1, c2, c3, c4, c5⟩, fun p hp => ?_⟩
          exact q p _ _ (s1.trans (Same.new hp)) (s1.free hp) upd_same (rep_new hp (rgV_rep 0 n))
        · rw [if_neg c] at q; exact q.elim
      | _ => exact (show False from q).elim
    | exc c => rw [r] at q; exact q
    | bad => rw [r] at q; exact q⟩
end
end PL

set_option Elab.async false
set_option linter.all false
set_option autoImplicit false
set_option maxRecDepth 100000
/-! PL9: what is walked; targets; comprehensions -/
namespace PL
open PySem PySem.Spec PyProof.Rows L2

/-- an item as it comes: a value, or a pair just made -/
inductive RpW (K : PySem.W.Frag) (H : Hp) : V → D → Prop
  | val {v : V} {d : D} : Rp K H v d → RpW K H v d
  | pair {T : Addr} {x y : V} {a b : D} : H T = some (.tup [x, y]) → Rp K H x a → Rp K H y b → RpW K H (.ref T) (.tuple [a, b])
def RpS (s : Bool) (K : PySem.W.Frag) (H : Hp) (v : V) (d : D) : Prop := match s with
  | true => Rp K H v d
  | false => RpW K H v d
def GI (Z : Addr → Prop) (H0 : Hp) : Hp → Prop := fun H => Same (cut Z H0) H
def YI (K : PySem.W.Frag) (s : Bool) (Z : Addr → Prop) (H0 : Hp) (ds : List D) : Nat → Hp → V → Hp → Prop := fun i H x H' =>
  ∃ d, ds[i]? = some d ∧ Same H H' ∧ ∀ Z', ZD Z' H → Same (cut Z H0) (cut Z' H) → RpS s K (cut Z' H') x d
def PoI (K : PySem.W.Frag) (mg : Str → Option Value) (W : WX) (s : Bool) (Z : Addr → Prop) (σ : L2.St) (H : Hp) (Q : It → Hp → Prop) : R (List D) → Prop
  | .ok ds => ∀ J H', Same H H' → Walk J ds.length (GI Z H') (YI K s Z H' ds) → Q J H'
  | .exc c => ∀ H' C, Same H H' → mg c = some (.ref C) → W (.ref C) none σ H'
  | .bad => False
def tI (K : PySem.W.Frag) (mg : Str → Option Value) (W : WX) (s : Bool) (f : Env → R (List D)) : TI := fun σ H Q => ∃ Z ρ, EOk K Z H σ ρ ∧ PoI K mg W s Z σ H Q (f ρ)
structure FI (X : Cx) (W : WX) (tg iter : Expr) (s : Bool) (f : Env → R (List D)) : Prop where
  pi : PI X tg iter (tI X.K X.mg W s f)
theorem PI.imp {X : Cx} {tg e : Expr} {t t' : TI} (h : PI X tg e t) (i : ∀ σ H Q, t' σ H Q → t σ H Q) : PI X tg e t' := ⟨fun pins s σ H Q I q => h.run pins s σ H Q I (i σ H Q q)⟩

/-! ### a list, a tuple, a text -/
def iAny (K : PySem.W.Frag) (tl : TE) : TI := fun σ H R => tl σ H fun x H1 =>
  (∃ a xs, x = .ref a ∧ SqL K H1 a xs ∧ R (Itl K a) H1) ∨ (∃ a xs, x = .ref a ∧ SqT K H1 a xs ∧ R (Itt K a) H1) ∨ ∃ z, x = .str z ∧ R (Its z) H1
theorem pi_any {X : Cx} {tg e : Expr} {tl : TE} (hl : PE X e tl) : PI X tg e (iAny X.K tl) := by
  refine ⟨fun pins s σ H R I h => ?_⟩
  refine thn (hl.run pins s σ H _ I h) fun v s1 ⟨x, H1, I1, r1, q1⟩ => ?_
  rcases q1 with ⟨a, xs, rfl, hq, q⟩ | ⟨a, xs, rfl, hq, q⟩ | ⟨z, rfl, q⟩
  · cases r1
    obtain ⟨its, rv, p, hz⟩ := I1.list hq
    refine wpAny_pyIter_list p.isList (pi_one (tk := s1.toks) I1 _ (turn_list a _) ⟨_, Heap.get?_push_size _ rfl, rfl, rfl⟩ q)
  · cases r1
    obtain ⟨its, rv, p, hz⟩ := I1.tuple hq
    refine wpAny_pyIter_tuple (show s1.heap.IsTuple a its.toArray from p) (pi_one (tk := s1.toks) I1 _ (turn_tuple a _) ⟨_, Heap.get?_push_size _ rfl, rfl, rfl⟩ q)
  · obtain ⟨t, rfl⟩ := r1
    cases ha : z.cps.all (· < 128)
    · exact wpAny_pyIter_wide ha (pi_one (tk := s1.toks) I1 _ (turn_str _ z t "str_iterator" (.inr rfl)) ⟨_, Heap.get?_push_size _ rfl, rfl, rfl⟩ q)
    · exact wpAny_pyIter_ascii ha (pi_one (tk := s1.toks) I1 _ (turn_str _ z t "str_ascii_iterator" (.inl rfl)) ⟨_, Heap.get?_push_size _ rfl, rfl, rfl⟩ q)
def itemsOf : D → R (List D)
  | .list ds => .ok ds
  | .tuple ds => .ok ds
  | .str z => .ok (z.cps.toList.map fun c => .str ⟨#[c]⟩)
  | _ => .bad
@[simp] def sIt (f : Env → R D) : Env → R (List D) := fun ρ => (f ρ).bind itemsOf
section
variable {K : PySem.W.Frag} {Z : Addr → Prop} {H : Hp} {a : Addr} {ds : List D}
theorem rp_items {xs : List V} (r : RpA K (cut Z H) xs ds) {G : Hp → Prop} {i : Nat} {H1 H2 : Hp} {x : V} (h : YAt xs i H1 x H2) : YI K true Z H ds i H1 x H2 := by
  obtain ⟨rfl, hx⟩ := h
  obtain ⟨d, hd, p⟩ := r.getV hx
  exact ⟨d, hd, Same.refl _, fun Z' _ s => p.up s⟩
theorem walk_lst {xs : List V} (h : cut Z H a = some (.lst xs)) (r : RpA K (cut Z H) xs ds) : Walk (Itl K a) ds.length (GI Z H) (YI K true Z H ds) := by
  rw [← r.length]
  exact walk_list.mono (fun H1 g => SqL.of (g _ _ h)) fun i H1 x H2 _ _ y => rp_items (G := GI Z H) r y
theorem walk_tpl {xs : List V} (h : SqT K (cut Z H) a xs) (r : RpA K (cut Z H) xs ds) : Walk (Itt K a) ds.length (GI Z H) (YI K true Z H ds) := by
  rw [← r.length]
  exact walk_tup.mono (fun H1 g => SqT.same h g) fun i H1 x H2 _ _ y => rp_items (G := GI Z H) r y
theorem walk_txt {z : Str} : Walk (Its z) (z.cps.toList.map fun c => PyData.str ⟨#[c]⟩).length (GI Z H) (YI K true Z H (z.cps.toList.map fun c => .str ⟨#[c]⟩)) := by
  have e : (z.cps.toList.map fun c => PyData.str ⟨#[c]⟩).length = z.cps.size := by simp
  rw [e]
  refine walk_str.mono (fun _ _ => trivial) fun i H1 x H2 _ _ y => ?_
  obtain ⟨rfl, c, hc, rfl⟩ := y
  exact ⟨.str ⟨#[c]⟩, by simp [hc], Same.refl _, fun _ _ _ => .str _⟩
end
section
variable {X : Cx} {W : WX} {tg e : Expr}
theorem PoI.ofBind {K : PySem.W.Frag} {mg : Str → Option Value} {s : Bool} {Z : Addr → Prop} {σ : L2.St} {H : Hp} {α : Type} {Q : It → Hp → Prop} {r : R α} {k : α → R (List D)} (h : PoI K mg W s Z σ H Q (r.bind k)) : (∃ a, r = .ok a ∧ PoI K mg W s Z σ H Q (k a)) ∨ ∃ c, r = .exc c ∧ PoI K mg W s Z σ H Q (.exc c) := by
  cases r with
  | ok a => exact .inl ⟨a, rfl, h⟩
  | exc c => exact .inr ⟨c, rfl, h⟩
  | bad => exact h.elim
theorem fi_any {f : Env → R D} (h : FE X W e f) : FI X W tg e true (sIt f) :=
  ⟨PI.imp (pi_any h.pe) fun σ H Q ⟨Z, ρ, eo, q⟩ => by
    refine ⟨Z, ρ, eo, ?_⟩
    rcases q.ofBind with ⟨d, r, q⟩ | ⟨c, r, q⟩
    · rw [r]
      intro v H1 s1 p
      cases p with
      | lst h1 h2 => exact .inl ⟨_, _, rfl, SqL.of (cut_some.mp h1).2, q _ _ s1 (walk_lst h1 h2)⟩
      | tup h1 h2 => exact .inr (.inl ⟨_, _, rfl, SqT.same h1.sqT Same.uncut, q _ _ s1 (walk_tpl h1.sqT h2)⟩)
      | str z => exact .inr (.inr ⟨_, rfl, q _ _ s1 walk_txt⟩)
      | _ => exact q.elim
    · rw [r]; exact q⟩
/-! ### ranges -/
def rg1 : List D → R (List D)
  | [.int n] => if rgOk 0 n then .ok (intsD 0 n.toNat) else .bad
  | _ => .bad
def rg2 : List D → R (List D)
  | [.int a, .int b] => if rgOk a b then .ok (intsD a (b - a).toNat) else .bad
  | _ => .bad
/-- a step: given by its number of items -/
def rgN (a b c : Int) : Nat := if c < 0 then ((a - b + (-c) - 1) / (-c)).toNat else ((b - a + c - 1) / c).toNat
def rg3 : List D → R (List D)
  | [.int a, .int b, .int c] => if c ≠ 0 ∧ c.natAbs < 1073741824 ∧ Builtin.Range.small a b c = true ∧ Builtin.Range.rangeSize a b c = (Builtin.Range.rangeSize a b c).toNat then
      .ok ((List.range (Builtin.Range.rangeSize a b c).toNat).map fun i => .int (a + (i : Nat) * c)) else .bad
  | _ => .bad
@[simp] def sRg (F : List D → R (List D)) (g : Env → R (List D)) : Env → R (List D) := fun ρ => (g ρ).bind F
theorem intsD_length (lo : Int) (n : Nat) : (intsD lo n).length = n := by unfold intsD; simp
theorem intsD_get {lo : Int} {n i : Nat} (h : i < n) : (intsD lo n)[i]? = some (.int (lo + (i : Nat))) := by unfold intsD; simp [h]
theorem walk_rg {K : PySem.W.Frag} {Z : Addr → Prop} {H : Hp} {lo : Int} {n : Nat} : Walk (Itr lo n) (intsD lo n).length (GI Z H) (YI K true Z H (intsD lo n)) := by
  rw [intsD_length]
  refine walk_range.mono (fun _ _ => trivial) fun i H1 x H2 hi _ y => ?_
  obtain ⟨rfl, rfl⟩ := y
  exact ⟨_, intsD_get hi, Same.refl _, fun _ _ _ => .int _⟩
theorem fi_range1 {a : Expr} {g : Env → R (List D)} {p pos : Pos} (hg : Gl X "range") (hm : X.mg "range" = none) (ha : FA X W [a] g) (hs : starEach [a] X.env = [(false, eval a X.env)] := by rfl) : FI X W tg (.Call (.Name "range" p) [a] [] pos) true (sRg rg1 g) :=
  ⟨PI.imp (pi_range1 hg hm ha.pa hs) fun σ H Q ⟨Z, ρ, eo, q⟩ => by
    refine ⟨Z, ρ, eo, ?_⟩
    rcases q.ofBind with ⟨d, r, q⟩ | ⟨c, r, q⟩
    · rw [r]
      intro vs H1 s1 p
      unfold rg1 at q
      split at q
      · split at q
        · next h =>
          cases p with
          | cons p1 p2 =>
            cases p1; cases p2
            obtain ⟨_, _, h3, h4, _⟩ := rgOk_of h
            exact ⟨_, rfl, h3, h4, q _ _ s1 walk_rg⟩
        · exact q.elim
      · exact q.elim
    · rw [r]; exact q⟩
theorem fi_range2 {a b : Expr} {g : Env → R (List D)} {p pos : Pos} (hg : Gl X "range") (hm : X.mg "range" = none) (ha : FA X W [a, b] g) (hs : starEach [a, b] X.env = [(false, eval a X.env), (false, eval b X.env)] := by rfl) (hs2 : starEach [b] X.env = [(false, eval b X.env)] := by rfl) : FI X W tg (.Call (.Name "range" p) [a, b] [] pos) true (sRg rg2 g) :=
  ⟨PI.imp (pi_range2 hg hm ha.pa hs hs2) fun σ H Q ⟨Z, ρ, eo, q⟩ => by
    refine ⟨Z, ρ, eo, ?_⟩
    rcases q.ofBind with ⟨d, r, q⟩ | ⟨c, r, q⟩
    · rw [r]
      intro vs H1 s1 p
      unfold rg2 at q
      split at q
      · split at q
        · next h =>
          cases p with
          | cons p1 p2 =>
            cases p2 with
            | cons p2 p3 =>
              cases p1; cases p2; cases p3
              obtain ⟨h1, h2, h3, h4, _⟩ := rgOk_of h
              exact ⟨_, _, rfl, ⟨h1, h2, h3, h4⟩, q _ _ s1 walk_rg⟩
        · exact q.elim
      · exact q.elim
    · rw [r]; exact q⟩
theorem fi_range3 {a b c : Expr} {g : Env → R (List D)} {p pos : Pos} (hg : Gl X "range") (hm : X.mg "range" = none) (ha : FA X W [a, b, c] g)
    (hs : starEach [a, b, c] X.env = (false, eval a X.env) :: starEach [b, c] X.env := by rfl) (hpl : (backTo pos (starEach [b, c] X.env)).any (·.1) = false := by rfl) : FI X W tg (.Call (.Name "range" p) [a, b, c] [] pos) true (sRg rg3 g) :=
  ⟨PI.imp (pi_range3 hg hm ha.pa hs hpl) fun σ H Q ⟨Z, ρ, eo, q⟩ => by
    refine ⟨Z, ρ, eo, ?_⟩
    rcases q.ofBind with ⟨d, r, q⟩ | ⟨c, r, q⟩
    · rw [r]
      intro vs H1 s1 p
      unfold rg3 at q
      split at q
      · split at q
        · next h =>
          cases p with
          | cons p1 p2 =>
            cases p2 with
            | cons p2 p3 =>
              cases p3 with
              | cons p3 p4 =>
                cases p1; cases p2; cases p3; cases p4
                refine ⟨_, _, _, _, rfl, ⟨h.1, h.2.1, h.2.2.1, h.2.2.2⟩, q _ _ s1 ?_⟩
                rw [List.length_map, List.length_range]
                refine walk_rangeC.mono (fun _ _ => trivial) fun i H1 x H2 hi _ y => ?_
                obtain ⟨rfl, rfl⟩ := y
                exact ⟨_, by simp [hi], Same.refl _, fun _ _ _ => .int _⟩
        · exact q.elim
      · exact q.elim
    · rw [r]; exact q⟩
/-- reversed(list) -/
def revL : List D → R (List D)
  | [.list ds] => .ok ds.reverse
  | _ => .bad
theorem fi_reversed {a : Expr} {g : Env → R (List D)} {p pos : Pos} (hg : Gl X "reversed") (hm : X.mg "reversed" = none) (ha : FA X W [a] g) (hs : starEach [a] X.env = [(false, eval a X.env)] := by rfl) : FI X W tg (.Call (.Name "reversed" p) [a] [] pos) true (sRg revL g) :=
  ⟨PI.imp (pi_reversed hg hm ha.pa hs) fun σ H Q ⟨Z, ρ, eo, q⟩ => by
    refine ⟨Z, ρ, eo, ?_⟩
    rcases q.ofBind with ⟨d, r, q⟩ | ⟨c, r, q⟩
    · rw [r]
      intro vs H1 s1 p
      unfold revL at q
      split at q
      · cases p with
        | cons p1 p2 =>
          cases p2
          cases p1 with
          | lst h1 h2 =>
            refine ⟨_, _, rfl, SqL.of (cut_some.mp h1).2, q _ _ s1 ?_⟩
            rw [List.length_reverse, ← h2.length]
            refine walk_rev.mono (fun H2 g => SqL.of (g _ _ h1)) fun i H2 x H3 hi _ y => ?_
            obtain ⟨rfl, hx⟩ := y
            obtain ⟨d, hd, p⟩ := h2.getV hx
            refine ⟨d, ?_, Same.refl _, fun Z' _ s => p.up s⟩
            rw [List.getElem?_reverse (by rw [← h2.length]; exact hi), ← h2.length]
            exact hd
      · exact q.elim
    · rw [r]; exact q⟩
end

/-! ### targets -/
def gF (K : PySem.W.Frag) (s : Bool) (is : List Nat) (put : D → Env → R Env) : TG := fun v σ H Q => ∃ Z d ρ, EOk K Z H σ ρ ∧ RpS s K (cut Z H) v d ∧ match put d ρ with
  | .ok ρ' => ∀ σ', EOk K Z H σ' ρ' → σ'.length = σ.length → (∀ j, j ∉ is → σ'[j]? = σ[j]?) → Q σ' H
  | _ => False
def gFs (K : PySem.W.Frag) (is : List Nat) (put : List D → Env → R Env) : TGs := fun vs σ H Q => ∃ Z ds ρ, EOk K Z H σ ρ ∧ RpA K (cut Z H) vs ds ∧ match put ds ρ with
  | .ok ρ' => ∀ σ', EOk K Z H σ' ρ' → σ'.length = σ.length → (∀ j, j ∉ is → σ'[j]? = σ[j]?) → Q σ' H
  | _ => False
structure FG (X : Cx) (tg : Expr) (s : Bool) (is : List Nat) (put : D → Env → R Env) : Prop where
  pg : PG X tg (gF X.K s is put)
structure FGs (X : Cx) (ts : List Expr) (is : List Nat) (put : List D → Env → R Env) : Prop where
  pgs : PGs X ts (gFs X.K is put)
theorem PG.imp {X : Cx} {e : Expr} {t t' : TG} (h : PG X e t) (i : ∀ v σ H Q, t' v σ H Q → t v σ H Q) : PG X e t' := ⟨fun pins s σ H v u Q I r q => h.run pins s σ H v u Q I r (i v σ H Q q)⟩
theorem PGs.imp {X : Cx} {e : List Expr} {t t' : TGs} (h : PGs X e t) (i : ∀ v σ H Q, t' v σ H Q → t v σ H Q) : PGs X e t' := ⟨fun pins s σ H v u Q I r q => h.run pins s σ H v u Q I r (i v σ H Q q)⟩
theorem EOk.put {K : PySem.W.Frag} {Z : Addr → Prop} {H : Hp} {σ : L2.St} {ρ : Env} {i : Nat} {v : V} {d : D} (e : EOk K Z H σ ρ) (r : Rp K (cut Z H) v d) : EOk K Z H (σ.set i (some v)) (ρ.set i (.val d)) := by
  refine ⟨by rw [List.length_set, List.length_set]; exact e.len, e.zd, fun j d' h => ?_, fun j ns h => ?_, fun j ns h => ?_⟩
  · by_cases hj : i = j
    · subst hj
      have hl : i < ρ.length := by
        apply Decidable.byContradiction; intro hn
        rw [List.getElem?_eq_none (by simpa using hn)] at h
        cases h
      rw [List.getElem?_set_self hl] at h
      cases h
      exact ⟨v, List.getElem?_set_self (by rw [e.len]; exact hl), r⟩
    · rw [List.getElem?_set_ne hj] at h ⊢
      exact e.val j d' h
  · by_cases hj : i = j
    · subst hj
      have hl : i < ρ.length := by
        apply Decidable.byContradiction; intro hn
        rw [List.getElem?_eq_none (by simpa using hn)] at h
        cases h
      rw [List.getElem?_set_self hl] at h
      cases h
    · rw [List.getElem?_set_ne hj] at h ⊢
      exact e.raw j ns h
  · by_cases hj : i = j
    · subst hj
      have hl : i < ρ.length := by
        apply Decidable.byContradiction; intro hn
        rw [List.getElem?_eq_none (by simpa using hn)] at h
        cases h
      rw [List.getElem?_set_self hl] at h
      cases h
    · rw [List.getElem?_set_ne hj] at h ⊢
      exact e.own j ns h
@[simp] def pOne (i : Nat) : D → Env → R Env := fun d ρ => .ok (ρ.set i (.val d))
@[simp] def pNil : List D → Env → R Env := fun ds ρ => match ds with
  | [] => .ok ρ
  | _ => .bad
@[simp] def pCons (p : D → Env → R Env) (q : List D → Env → R Env) : List D → Env → R Env := fun ds ρ => match ds with
  | d :: ds => (p d ρ).bind fun ρ' => q ds ρ'
  | [] => .bad
@[simp] def pTup (n : Nat) (q : List D → Env → R Env) : D → Env → R Env := fun d ρ => match d with
  | .tuple ds => if ds.length = n then q ds ρ else .bad
  | _ => .bad
section
variable {X : Cx} {pos : Pos}
theorem fg_one (i : Nat) {x : Str} (hN : X.N.Nodup) (hi : X.N[i]? = some x) (hx : Loc X.env.scope x) (hf : X.fn x = true ∨ X.env.scope.names.lookup x = some .local := by first | exact .inl rfl | exact .inr rfl | assumption) : FG X (.Name x pos) true [i] (pOne i) :=
  ⟨PG.imp (pg_name hN hi hx hf) fun v σ H Q ⟨Z, d, ρ, e, r, q⟩ => q _ (e.put r) (List.length_set ..) fun j hj => List.getElem?_set_ne (fun z => hj (by simp [z]))⟩
theorem fgs_nil : FGs X [] [] pNil :=
  ⟨PGs.imp pgs_nil fun vs σ H Q ⟨Z, ds, ρ, e, r, q⟩ => by
    unfold pNil at q
    cases r with
    | nil => exact ⟨rfl, q σ e rfl fun _ _ => rfl⟩
    | cons _ _ => exact q.elim⟩
theorem fgs_cons {e : Expr} {es : List Expr} {is js : List Nat} {p : D → Env → R Env} {q : List D → Env → R Env} (h1 : FG X e true is p) (h2 : FGs X es js q)
    (hs : (assignEach (e :: es) X.env).map (·.2) = assign e X.env :: (assignEach es X.env).map (·.2) := by rfl) : FGs X (e :: es) (is ++ js) (pCons p q) :=
  ⟨PGs.imp (pgs_cons h1.pg h2.pgs hs) fun vs σ H Q ⟨Z, ds, ρ, eo, r, w⟩ => by
    unfold pCons at w
    cases r with
    | nil => exact w.elim
    | cons r1 r2 =>
      refine ⟨_, _, rfl, Z, _, ρ, eo, r1, ?_⟩
      cases h : p _ ρ with
      | ok ρ' =>
        simp only [h, R.bind] at w
        intro σ' e' hl hu
        refine ⟨Z, _, ρ', e', r2, ?_⟩
        cases h3 : q _ ρ' with
        | ok ρ'' =>
          rw [h3] at w
          intro σ'' e'' hl' hu'
          exact w σ'' e'' (hl'.trans hl) fun j hj => (hu' j fun z => hj (List.mem_append_right _ z)).trans (hu j fun z => hj (List.mem_append_left _ z))
        | exc c => rw [h3] at w; exact w.elim
        | bad => rw [h3] at w; exact w.elim
      | exc c => simp only [h, R.bind] at w
      | bad => simp only [h, R.bind] at w⟩
theorem fg_tup {es : List Expr} {k : Nat} {n : Nat} {s : Bool} {is : List Nat} {q : List D → Env → R Env} (hc : X.calm = true) (h : FGs X es is q)
    (hn : (assignEach es X.env).length = n := by rfl) (hst : (assignEach es X.env).findIdx? (·.1) = none := by rfl) : FG X (.Tuple es k pos) s is (pTup n q) :=
  ⟨PG.imp (pg_tup hc h.pgs hn hst) fun v σ H Q ⟨Z, d, ρ, e, r, w⟩ => by
    have rw' : RpW X.K (cut Z H) v d := by
      cases s with
      | true => exact .val r
      | false => exact r
    have key : ∀ (xs : List V) (ds : List D) (a : Addr), v = .ref a → SqT X.K H a xs → RpA X.K (cut Z H) xs ds → pTup n q d ρ = (if ds.length = n then q ds ρ else .bad) → gTup X.K n (gFs X.K is q) v σ H Q := by
      intro xs ds a hv ht ha hp
      rw [hp] at w
      by_cases hl : ds.length = n
      · rw [if_pos hl] at w
        exact ⟨_, _, hv, ht, ha.length.trans hl, Z, _, ρ, e, ha, w⟩
      · rw [if_neg hl] at w; exact w.elim
    cases rw' with
    | pair ht ha hb => exact key _ _ _ rfl (.inl (.inl (cut_some.mp ht).2)) (.cons ha (.cons hb .nil)) rfl
    | val r =>
      cases r with
      | tup ht ha => exact key _ _ _ rfl (SqT.same ht.sqT Same.uncut) ha rfl
      | _ => exact w.elim⟩
end

/-! ### comprehensions -/
structure FTs (X : Cx) (W : WX) (ifs : List Expr) (f : Env → R Bool) : Prop where
  pts : PTs X ifs (tT X.K X.mg W f)
@[simp] def sYes : Env → R Bool := fun _ => .ok true
theorem fts_nil {X : Cx} {W : WX} : FTs X W [] sYes := ⟨⟨fun pins s σ H Q I ⟨Z, ρ, e, q⟩ => pts_nil.run pins s σ H Q I (q H (Same.refl H))⟩⟩
theorem fts_one {X : Cx} {W : WX} {c : Expr} {f : Env → R Bool} (h : FT X W c f) : FTs X W [c] f := ⟨pts_one h.pt⟩
def wipeE (ρ : Env) : List Nat → Env
  | [] => ρ
  | v :: vs => (wipeE ρ vs).set v .no
theorem wipeE_some {ρ : Env} {i : Nat} {x : Sl} (hx : x ≠ .no) : ∀ {vs : List Nat}, (wipeE ρ vs)[i]? = some x → ρ[i]? = some x ∧ i ∉ vs
  | [], h => ⟨h, by simp⟩
  | v :: vs, h => by
    unfold wipeE at h
    by_cases hi : v = i
    · subst hi
      rw [List.getElem?_set] at h
      simp only [if_true] at h
      split at h
      · cases h; exact absurd rfl hx
      · cases h
    · rw [List.getElem?_set_ne hi] at h
      obtain ⟨a, b⟩ := wipeE_some hx h
      exact ⟨a, fun m => by
        rcases List.mem_cons.mp m with z | z
        · exact hi z.symm
        · exact b z⟩
theorem wipeE_length (ρ : Env) : ∀ vs : List Nat, (wipeE ρ vs).length = ρ.length
  | [] => rfl
  | v :: vs => by unfold wipeE; rw [List.length_set, wipeE_length ρ vs]
theorem EOk.wipe {K : PySem.W.Frag} {Z : Addr → Prop} {H : Hp} {σ : L2.St} {ρ : Env} (e : EOk K Z H σ ρ) (vs : List Nat) : EOk K Z H (L2.wipe σ vs) (wipeE ρ vs) := by
  refine ⟨by rw [wipe_length, wipeE_length]; exact e.len, e.zd, fun i d h => ?_, fun i ns h => ?_, fun i ns h => ?_⟩
  · obtain ⟨h, n⟩ := wipeE_some (by simp) h
    rw [wipe_out n]; exact e.val i d h
  · obtain ⟨h, n⟩ := wipeE_some (by simp) h
    rw [wipe_out n]; exact e.raw i ns h
  · obtain ⟨h, n⟩ := wipeE_some (by simp) h
    rw [wipe_out n]; exact e.own i ns h
theorem EOk.to {K : PySem.W.Frag} {Z Z' : Addr → Prop} {H H' : Hp} {σ : L2.St} {ρ : Env} (e : EOk K Z H σ ρ) (s : Same H H') (s' : Same (cut Z H) (cut Z' H')) (z : ZD Z' H') : EOk K Z' H' σ ρ :=
  ⟨e.len, z, fun i d h => let ⟨v, a, b⟩ := e.val i d h; ⟨v, a, b.up s'⟩, fun i ns h => let ⟨a, b, c⟩ := e.raw i ns h; ⟨a, b, SqL.same c s'⟩, fun i o h => let ⟨a, b, c⟩ := e.own i o h; ⟨a, b, c.up s' s⟩⟩
theorem wipe_eq {σ σ' : L2.St} {vs : List Nat} (hl : σ'.length = σ.length) (h : ∀ j, j ∉ vs → σ'[j]? = σ[j]?) : L2.wipe σ' vs = L2.wipe σ vs := by
  apply List.ext_getElem?
  intro j
  by_cases hj : j ∈ vs
  · have key : ∀ (τ : L2.St) (vs : List Nat), j ∈ vs → (L2.wipe τ vs)[j]? = if j < τ.length then some none else none := by
      intro τ vs
      induction vs with
      | nil => intro h; cases h
      | cons v vs ih =>
        intro hm
        unfold L2.wipe
        by_cases hv : v = j
        · subst hv
          rw [List.getElem?_set]
          simp only [if_true, wipe_length]
        · rw [List.getElem?_set_ne hv]
          rcases List.mem_cons.mp hm with z | z
          · exact absurd z.symm hv
          · exact ih z
    rw [key σ' vs hj, key σ vs hj, hl]
  · rw [wipe_out hj, wipe_out hj]; exact h j hj
def lcGo (step : D → R (Option D)) : List D → R (List D)
  | [] => .ok []
  | d :: ds => match step d with
    | .ok o => match lcGo step ds with
      | .ok rs => match o with
        | some r => .ok (r :: rs)
        | none => .ok rs
      | _ => .bad
    | _ => .bad
def lcStep (vs : List Nat) (put : D → Env → R Env) (tt : Env → R Bool) (te : Env → R D) (ρ : Env) : D → R (Option D) := fun d =>
  match put d (wipeE ρ vs) with
  | .ok ρ' => match tt ρ' with
    | .ok true => match te ρ' with
      | .ok r => .ok (some r)
      | _ => .bad
    | .ok false => .ok none
    | _ => .bad
  | _ => .bad
@[simp] def sLc (vs : List Nat) (items : Env → R (List D)) (put : D → Env → R Env) (tt : Env → R Bool) (te : Env → R D) : Env → R (List D) := fun ρ =>
  (items ρ).bind fun ds => if okLen ds = true then lcGo (lcStep vs put tt te ρ) ds else .bad
theorem lcGo_cons {step : D → R (Option D)} {d : D} {ds rs : List D} (h : lcGo step (d :: ds) = .ok rs) : ∃ o rs', step d = .ok o ∧ lcGo step ds = .ok rs' ∧ rs = o.toList ++ rs' := by
  unfold lcGo at h
  cases h1 : step d with
  | ok o =>
    rw [h1] at h
    simp only at h
    cases h2 : lcGo step ds with
    | ok rs' =>
      rw [h2] at h
      cases o with
      | some r => cases h; exact ⟨_, _, rfl, rfl, rfl⟩
      | none => cases h; exact ⟨_, _, rfl, rfl, rfl⟩
    | exc c => rw [h2] at h; cases h
    | bad => rw [h2] at h; cases h
  | exc c => rw [h1] at h; cases h
  | bad => rw [h1] at h; cases h
theorem lcGo_noexc {step : D → R (Option D)} {ds : List D} {c : Str} : lcGo step ds ≠ .exc c := by
  cases ds with
  | nil => intro h; cases h
  | cons d ds =>
    unfold lcGo
    intro h
    split at h
    · split at h
      · split at h <;> cases h
      · cases h
    · cases h
theorem lcStep_ok {vs : List Nat} {put : D → Env → R Env} {tt : Env → R Bool} {te : Env → R D} {ρ : Env} {d : D} {o : Option D} (h : lcStep vs put tt te ρ d = .ok o) :
    ∃ ρ' b, put d (wipeE ρ vs) = .ok ρ' ∧ tt ρ' = .ok b ∧ ((b = true ∧ ∃ r, te ρ' = .ok r ∧ o = some r) ∨ (b = false ∧ o = none)) := by
  unfold lcStep at h
  cases h1 : put d (wipeE ρ vs) with
  | ok ρ' =>
    rw [h1] at h
    simp only at h
    cases h2 : tt ρ' with
    | ok b =>
      rw [h2] at h
      cases b with
      | true =>
        simp only at h
        cases h3 : te ρ' with
        | ok r => rw [h3] at h; cases h; exact ⟨_, _, rfl, h2, .inl ⟨rfl, r, h3, rfl⟩⟩
        | exc c => rw [h3] at h; cases h
        | bad => rw [h3] at h; cases h
      | false => cases h; exact ⟨_, _, rfl, h2, .inr ⟨rfl, rfl⟩⟩
    | exc c => rw [h2] at h; cases h
    | bad => rw [h2] at h; cases h
  | exc c => rw [h1] at h; cases h
  | bad => rw [h1] at h; cases h
/-- no exception comes out of a block -/
def W0 : WX := fun _ _ _ _ => False
section
variable {K : PySem.W.Frag} {mg : Str → Option Value} {W : WX} {s : Bool} {is vs : List Nat} {items : Env → R (List D)} {put : D → Env → R Env} {tt : Env → R Bool} {te : Env → R D} {σ : L2.St} {H : Hp} {Q : VK}
theorem lc_reads (hv : ∀ i ∈ is, i ∈ vs) (q : tN K mg W (sLc vs items put tt te) σ H Q) : tLc (tI K mg W s items) (gF K s is put) (tT K mg W0 tt) (tF K mg W0 te) vs σ H Q := by
  obtain ⟨Z, ρ, e, q⟩ := q
  refine ⟨Z, ρ, e, ?_⟩
  rcases q.ofBind with ⟨ds, r, q⟩ | ⟨c, r, q⟩
  · rw [r]
    intro J H1 s1 w D hD
    split at q
    · next hz =>
      have hz := okLen_le hz
      cases hg : lcGo (lcStep vs put tt te ρ) ds with
      | bad => rw [hg] at q; exact q.elim
      | exc c => exact absurd hg lcGo_noexc
      | ok rs =>
        rw [hg] at q
        refine lc_it w (fun i H2 => ∃ acc as rest, Same H1 H2 ∧ H2 D = some (.lst acc) ∧ RpA K (cut (fun a => Z a ∨ a = D) H2) acc as ∧ as.length ≤ i ∧ lcGo (lcStep vs put tt te ρ) (ds.drop i) = .ok rest ∧ rs = as ++ rest)
          ⟨[], [], rs, Same.new hD, upd_same, .nil, Nat.le_refl _, hg, rfl⟩ (fun i H2 _ ⟨_, _, _, s2, _⟩ => Same.uncut.trans s2) (fun i x H2 H3 hi p y => ?_) fun H2 p => ?_
        · obtain ⟨acc, as, rest, s12, hD2, hr, hlen, hgo, hrs⟩ := p
          obtain ⟨d, hd, s23, rep⟩ := y
          have hdrop : ds.drop i = d :: ds.drop (i + 1) := by
            rw [List.drop_eq_getElem_cons hi]
            congr 1
            rw [List.getElem?_eq_getElem hi] at hd
            exact Option.some.inj hd
          rw [hdrop] at hgo
          obtain ⟨o, rest', ho, hgo', hre⟩ := lcGo_cons hgo
          obtain ⟨ρ', b, hp, ht, hb⟩ := lcStep_ok ho
          have zd2 : ZD (fun a => Z a ∨ a = D) H2 := fun a za => by
            rcases za with za | za
            · exact e.zd.up (s1.trans s12) a za
            · exact ⟨_, by rw [za]; exact hD2⟩
          have s13 := s12.trans s23
          have sc : ∀ {H4 : Hp}, Same H1 H4 → Same (cut Z H1) (cut (fun a => Z a ∨ a = D) H4) := fun s14 a o h => by
            rw [cut_some] at h ⊢
            refine ⟨fun z => z.elim h.1 fun z => ?_, s14 a o h.2⟩
            rw [z, hD] at h
            cases h.2
          have e3 := ((e.up s1).wipe vs).to s13 (sc s13) (zd2.up s23)
          refine ⟨_, d, _, e3, rep _ zd2 (sc s12), ?_⟩
          rw [hp]
          intro σ' e' hl hu
          refine ⟨?_, _, ρ', e', ?_⟩
          · have : L2.wipe σ' vs = L2.wipe (L2.wipe σ vs) vs := wipe_eq hl fun j hj => hu j fun z => hj (hv j z)
            rw [this]
            exact wipe_eq (wipe_length _ _) fun j hj => wipe_out hj
          · rw [ht]
            intro H4 s34
            rcases hb with ⟨rfl, r, hte, rfl⟩ | ⟨rfl, rfl⟩
            · rw [if_pos rfl]
              refine ⟨_, ρ', e'.up s34, ?_⟩
              rw [hte]
              intro y H5 s45 py
              have s25 := s23.trans (s34.trans s45)
              have hD5 := s25 _ _ hD2
              refine ⟨acc, hD5, by rw [hr.length]; omega, acc ++ [y], as ++ [r], rest', fun a o h => ?_, upd_same, ?_, by simp; omega, hgo', by rw [hrs, hre]; simp⟩
              · rw [upd_ne (ne_of_none h hD)]; exact (s12.trans s25) a o h
              · have sD : Same (cut (fun a => Z a ∨ a = D) H5) (cut (fun a => Z a ∨ a = D) (upd H5 D (.lst (acc ++ [y])))) := fun a o h => by
                  rw [cut_some] at h ⊢
                  exact ⟨h.1, by rw [upd_ne (fun z => h.1 (.inr z))]; exact h.2⟩
                exact ((hr.up (Same.cut s25)).up sD).append (.cons (py.up sD) .nil)
            · rw [if_neg Bool.false_ne_true]
              have s24 := s23.trans s34
              exact ⟨acc, as, rest', s12.trans s24, s24 _ _ hD2, hr.up (Same.cut s24), by omega, hgo', by rw [hrs, hre]; rfl⟩
        · obtain ⟨acc, as, rest, s12, hD2, hr, hlen, hgo, hrs⟩ := p
          rw [List.drop_length] at hgo
          cases hgo
          rw [List.append_nil] at hrs
          subst hrs
          exact q D acc H2 (s1.trans s12) (s1.free hD) hD2 hr
    · exact q.elim
  · rw [r]; exact q
end
section
variable {X : Cx} {W : WX} {s : Bool} {is : List Nat} {items : Env → R (List D)} {put : D → Env → R Env} {tt : Env → R Bool} {te : Env → R D}
theorem fn_lc {elt tg iter : Expr} {ifs : List Expr} {scope : Scope} {own : List (Str × Nat)} {pos : Pos} (hc : X.calm = true) (hN : X.N.Nodup) (hi : FI X W tg iter s items) (ok : BlkOk X.N X.env.scope scope own) (hv : ∀ i ∈ is, i ∈ own.map (·.2))
    (hg : ∀ (s' : Shared) (H : Hp) (C : Addr) (cl : List (Str × Addr)) (fp : List Addr), FG (X.blk s' H scope (compEnvC scope cl C X.env) fp) tg s is put)
    (ht : ∀ (s' : Shared) (H : Hp) (C : Addr) (cl : List (Str × Addr)) (fp : List Addr), FTs (X.blk s' H scope (compEnvC scope cl C X.env) fp) W0 ifs tt)
    (he : ∀ (s' : Shared) (H : Hp) (C : Addr) (cl : List (Str × Addr)) (fp : List Addr), FE (X.blk s' H scope (compEnvC scope cl C X.env) fp) W0 elt te) (hs : ∀ x, foldedSetIterable iter X.env x = pure x := by intro _; rfl) :
    FN X W (.ListComp elt [⟨tg, iter, ifs, 0⟩] scope pos) (sLc (own.map (·.2)) items put tt te) :=
  ⟨PE.imp (pe_lc hc hN hi.pi ok (fun s' H C cl fp => (hg s' H C cl fp).pg) (fun s' H C cl fp => (ht s' H C cl fp).pts) (fun s' H C cl fp => (he s' H C cl fp).pe) hs) fun σ H Q q => lc_reads hv q⟩
/-- name = [..] on one line -/
theorem ps_lcSet {i : Nat} {y : Str} {py : Pos} {elt tg iter : Expr} {ifs : List Expr} {scope : Scope} {own : List (Str × Nat)} {pos spos : Pos} (hc : X.calm = true) (hN : X.N.Nodup) (hy : X.N[i]? = some y) (hyl : X.env.scope.names.lookup y = some .local)
    (hsw : swapsWith (.ListComp elt [⟨tg, iter, ifs, 0⟩] scope pos) (some (.Name y py)) spos.line X.env = pure true) (hi : FI X W tg iter s items) (ok : BlkOk X.N X.env.scope scope own) (hv : ∀ i ∈ is, i ∈ own.map (·.2))
    (hg : ∀ (s' : Shared) (H : Hp) (C : Addr) (cl : List (Str × Addr)) (fp : List Addr), FG (X.blk s' H scope (compEnvC scope cl C X.env) fp) tg s is put)
    (ht : ∀ (s' : Shared) (H : Hp) (C : Addr) (cl : List (Str × Addr)) (fp : List Addr), FTs (X.blk s' H scope (compEnvC scope cl C X.env) fp) W0 ifs tt)
    (he : ∀ (s' : Shared) (H : Hp) (C : Addr) (cl : List (Str × Addr)) (fp : List Addr), FE (X.blk s' H scope (compEnvC scope cl C X.env) fp) W0 elt te) (hs : ∀ x, foldedSetIterable iter X.env x = pure x := by intro _; rfl) :
    PS X (.Assign [.Name y py] (.ListComp elt [⟨tg, iter, ifs, 0⟩] scope pos) spos) (tAsg (tN X.K X.mg W (sLc (own.map (·.2)) items put tt te)) (gName i)) :=
  ⟨fun pins s' σ H D I h => (ps_setLc hc hN hy hyl hsw hi.pi ok (fun s' H C cl fp => (hg s' H C cl fp).pg) (fun s' H C cl fp => (ht s' H C cl fp).pts) (fun s' H C cl fp => (he s' H C cl fp).pe) hs).run pins s' σ H D I (lc_reads hv h)⟩
end
end PL

set_option Elab.async false
set_option linter.all false
set_option autoImplicit false
set_option maxRecDepth 100000
/-! PL10: states with owned lists; statements -/
namespace PL
open PySem PySem.Spec PyProof.Rows L2

def ZO (σ : L2.St) (ρ : Env) : Addr → Prop := fun a => ∃ (i : Nat) (o : Own), ρ[i]? = some (.own o) ∧ σ[i]? = some (some (.ref a))
abbrev ZA (Zc : Addr → Prop) (σ : L2.St) (ρ : Env) : Addr → Prop := fun a => Zc a ∨ ZO σ ρ a
structure SOk (K : PySem.W.Frag) (Zc : Addr → Prop) (H0 H : Hp) (σ : L2.St) (ρ : Env) : Prop where
  same : Same H0 H
  zc : ZD Zc H0
  e : EOk K (ZA Zc σ ρ) H σ ρ
  own : ∀ (i : Nat) (o : Own), ρ[i]? = some (.own o) → ∃ a, σ[i]? = some (some (.ref a)) ∧ H0 a = none ∧ OwnAt K (cut (ZA Zc σ ρ) H) H a o
  inj : ∀ (i j : Nat) (o o' : Own) (a : Addr), ρ[i]? = some (.own o) → ρ[j]? = some (.own o') → σ[i]? = some (some (.ref a)) → σ[j]? = some (some (.ref a)) → i = j
section
variable {K : PySem.W.Frag} {Zc : Addr → Prop} {H0 H H' : Hp} {σ σ' : L2.St} {ρ ρ' : Env}
theorem SOk.up (so : SOk K Zc H0 H σ ρ) (s : Same H H') : SOk K Zc H0 H' σ ρ :=
  ⟨so.same.trans s, so.zc, so.e.up s, fun i o h => let ⟨a, h1, h2, h3⟩ := so.own i o h; ⟨a, h1, h2, h3.up (Same.cut s) s⟩, so.inj⟩
theorem EOk.less {Z Z' : Addr → Prop} (e : EOk K Z H σ ρ) (h : ∀ a, Z' a → Z a) : EOk K Z' H σ ρ := e.to (Same.refl H) (Same.cutLe h) (fun a z => e.zd a (h a z))
theorem SOk.weak {H0' : Hp} (so : SOk K Zc H0' H σ ρ) (s : Same H0 H0') (z : ZD Zc H0) : SOk K Zc H0 H σ ρ :=
  ⟨s.trans so.same, z, so.e, fun i o h => let ⟨a, h1, h2, h3⟩ := so.own i o h; ⟨a, h1, s.free h2, h3⟩, so.inj⟩
/-- the slots of one state among those of another -/
theorem SOk.of (so : SOk K Zc H0 H σ ρ) (s : Same H H') (e' : EOk K (ZA Zc σ ρ) H' σ' ρ') (hk : ∀ (j : Nat) (o : Own), ρ'[j]? = some (.own o) → ρ[j]? = some (.own o) ∧ σ'[j]? = σ[j]?) : SOk K Zc H0 H' σ' ρ' := by
  have sub : ∀ a, ZA Zc σ' ρ' a → ZA Zc σ ρ a := fun a h => by
    rcases h with h | ⟨i, o, h1, h2⟩
    · exact .inl h
    · obtain ⟨k1, k2⟩ := hk i o h1
      exact .inr ⟨i, o, k1, by rw [← k2]; exact h2⟩
  refine ⟨so.same.trans s, so.zc, e'.less sub, fun i o h => ?_, fun i j o o' a h1 h2 h3 h4 => ?_⟩
  · obtain ⟨k1, k2⟩ := hk i o h
    obtain ⟨a, h1, h2, h3⟩ := so.own i o k1
    exact ⟨a, by rw [k2]; exact h1, h2, h3.up ((Same.cut s).trans (Same.cutLe sub)) s⟩
  · obtain ⟨k1, k2⟩ := hk i o h1
    obtain ⟨k3, k4⟩ := hk j o' h2
    exact so.inj i j o o' a k1 k3 (by rw [← k2]; exact h3) (by rw [← k4]; exact h4)
theorem set_own {i j : Nat} {x : Sl} {o : Own} (hx : ∀ o, x ≠ .own o) (h : (ρ.set i x)[j]? = some (.own o)) : ρ[j]? = some (.own o) ∧ i ≠ j := by
  by_cases hj : i = j
  · subst hj
    rw [List.getElem?_set] at h
    simp only [if_true] at h
    split at h
    · cases h; exact absurd rfl (hx _)
    · cases h
  · rw [List.getElem?_set_ne hj] at h
    exact ⟨h, hj⟩
theorem SOk.put {i : Nat} {v : V} {d : D} (so : SOk K Zc H0 H σ ρ) (r : Rp K (cut (ZA Zc σ ρ) H) v d) : SOk K Zc H0 H (σ.set i (some v)) (ρ.set i (.val d)) :=
  so.of (Same.refl H) (so.e.put r) fun j o h => by
    obtain ⟨a, b⟩ := set_own (x := .val d) (fun _ e => by cases e) h
    exact ⟨a, List.getElem?_set_ne b⟩
/-- a new thing, owned -/
theorem SOk.putN {i : Nat} {p : Addr} {ow : Own} (so : SOk K Zc H0 H σ ρ) (s : Same H H') (hp : H p = none) (r : OwnAt K (cut (fun a => ZA Zc σ ρ a ∨ a = p) H') H' p ow) (hi : i < ρ.length) :
    SOk K Zc H0 H' (σ.set i (some (.ref p))) (ρ.set i (.own ow)) := by
  have hiσ : i < σ.length := by rw [so.e.len]; exact hi
  have cases' : ∀ (j : Nat) (o : Own), (ρ.set i (.own ow))[j]? = some (.own o) → (j = i ∧ o = ow ∧ (σ.set i (some (.ref p)))[j]? = some (some (.ref p))) ∨ (ρ[j]? = some (.own o) ∧ (σ.set i (some (.ref p)))[j]? = σ[j]? ∧ i ≠ j) := by
    intro j o h
    by_cases hj : i = j
    · subst hj
      rw [List.getElem?_set_self hi] at h
      cases h
      exact .inl ⟨rfl, rfl, List.getElem?_set_self hiσ⟩
    · rw [List.getElem?_set_ne hj] at h
      exact .inr ⟨h, List.getElem?_set_ne hj, hj⟩
  have sub : ∀ a, ZA Zc (σ.set i (some (.ref p))) (ρ.set i (.own ow)) a → ZA Zc σ ρ a ∨ a = p := fun a h => by
    rcases h with h | ⟨j, o, h1, h2⟩
    · exact .inl (.inl h)
    · rcases cases' j o h1 with ⟨_, _, h3⟩ | ⟨h3, h4, _⟩
      · rw [h3] at h2; cases h2; exact .inr rfl
      · exact .inl (.inr ⟨j, o, h3, by rw [← h4]; exact h2⟩)
  have zd' : ZD (ZA Zc (σ.set i (some (.ref p))) (ρ.set i (.own ow))) H' := fun a h => by
    rcases sub a h with z | z
    · exact so.e.zd.up s a z
    · obtain ⟨u, hu⟩ := r.there
      exact ⟨u, by rw [z]; exact hu⟩
  have sc : Same (cut (ZA Zc σ ρ) H) (cut (ZA Zc (σ.set i (some (.ref p))) (ρ.set i (.own ow))) H') := fun a o h => by
    rw [cut_some] at h ⊢
    refine ⟨fun z => ?_, s _ _ h.2⟩
    rcases sub a z with z | z
    · exact h.1 z
    · rw [z, hp] at h; cases h.2
  have ownP : ∀ (j : Nat) (o : Own), (ρ.set i (.own ow))[j]? = some (.own o) → ∃ a, (σ.set i (some (.ref p)))[j]? = some (some (.ref a)) ∧ H0 a = none ∧ OwnAt K (cut (ZA Zc (σ.set i (some (.ref p))) (ρ.set i (.own ow))) H') H' a o := fun j o h => by
    rcases cases' j o h with ⟨_, rfl, h3⟩ | ⟨h3, h4, _⟩
    · exact ⟨p, h3, so.same.free hp, r.up (Same.cutLe sub) (Same.refl _)⟩
    · obtain ⟨a, k1, k2, k3⟩ := so.own j o h3
      exact ⟨a, by rw [h4]; exact k1, k2, k3.up sc s⟩
  refine ⟨so.same.trans s, so.zc, ⟨by rw [List.length_set, List.length_set]; exact so.e.len, zd', fun j d h => ?_, fun j ns h => ?_, fun j o h => let ⟨a, b, _, c⟩ := ownP j o h; ⟨a, b, c⟩⟩, ownP, fun j k o o' a h1 h2 h3 h4 => ?_⟩
  · by_cases hj : i = j
    · subst hj
      rw [List.getElem?_set_self hi] at h; cases h
    · rw [List.getElem?_set_ne hj] at h ⊢
      obtain ⟨v, h1, h2⟩ := so.e.val j d h
      exact ⟨v, h1, h2.up sc⟩
  · by_cases hj : i = j
    · subst hj
      rw [List.getElem?_set_self hi] at h; cases h
    · rw [List.getElem?_set_ne hj] at h ⊢
      obtain ⟨v, h1, h2⟩ := so.e.raw j ns h
      exact ⟨v, h1, SqL.same h2 sc⟩
  · rcases cases' j o h1 with ⟨e1, _, k1⟩ | ⟨k1, k2, _⟩
    · rcases cases' k o' h2 with ⟨e2, _, _⟩ | ⟨m1, m2, _⟩
      · rw [e1, e2]
      · rw [k1] at h3; cases h3
        rw [m2] at h4
        obtain ⟨b, n1, _, n3⟩ := so.own k o' m1
        rw [h4] at n1; cases n1
        obtain ⟨u, hu⟩ := n3.there
        rw [hp] at hu; cases hu
    · rcases cases' k o' h2 with ⟨e2, _, m1⟩ | ⟨m1, m2, _⟩
      · rw [m1] at h4; cases h4
        rw [k2] at h3
        obtain ⟨b, n1, _, n3⟩ := so.own j o k1
        rw [h3] at n1; cases n1
        obtain ⟨u, hu⟩ := n3.there
        rw [hp] at hu; cases hu
      · exact so.inj j k o o' a k1 m1 (by rw [← k2]; exact h3) (by rw [← m2]; exact h4)
theorem SOk.putO {i : Nat} {p : Addr} {xs : List V} {ds : List D} (so : SOk K Zc H0 H σ ρ) (s : Same H H') (hp : H p = none) (hp' : H' p = some (.lst xs)) (r : RpA K (cut (fun a => ZA Zc σ ρ a ∨ a = p) H') xs ds) (hi : i < ρ.length) :
    SOk K Zc H0 H' (σ.set i (some (.ref p))) (ρ.set i (.own (.lst ds))) := so.putN s hp ⟨xs, hp', r⟩ hi
/-- an owned list, rewritten -/
theorem SOk.writeN {i : Nat} {a : Addr} {o ow : Own} {u0 : HO} (so : SOk K Zc H0 H σ ρ) (hi : ρ[i]? = some (.own o)) (ha : σ[i]? = some (some (.ref a))) (r : OwnAt K (cut (ZA Zc σ ρ) H) (upd H a u0) a ow) :
    SOk K Zc H0 (upd H a u0) σ (ρ.set i (.own ow)) := by
  have hil : i < ρ.length := (List.getElem?_eq_some_iff.mp hi).1
  obtain ⟨a', h1, h2, h3⟩ := so.own i o hi
  rw [ha] at h1; cases h1
  have ov : ∀ (j : Nat) (q : Own), (ρ.set i (.own ow))[j]? = some (.own q) → (j = i ∧ q = ow) ∨ (ρ[j]? = some (.own q) ∧ i ≠ j) := by
    intro j q h
    by_cases hj : i = j
    · subst hj
      rw [List.getElem?_set_self hil] at h
      cases h
      exact .inl ⟨rfl, rfl⟩
    · rw [List.getElem?_set_ne hj] at h
      exact .inr ⟨h, hj⟩
  have za : ∀ b, ZA Zc σ (ρ.set i (.own ow)) b → ZA Zc σ ρ b := fun b h => by
    rcases h with h | ⟨j, q, k1, k2⟩
    · exact .inl h
    · rcases ov j q k1 with ⟨rfl, _⟩ | ⟨k3, _⟩
      · exact .inr ⟨_, o, hi, k2⟩
      · exact .inr ⟨j, q, k3, k2⟩
  have sc : Same (cut (ZA Zc σ ρ) H) (cut (ZA Zc σ (ρ.set i (.own ow))) (upd H a u0)) := fun b u h => by
    rw [cut_some] at h ⊢
    have hne : b ≠ a := fun z => h.1 (.inr ⟨i, o, hi, by rw [z]; exact ha⟩)
    exact ⟨fun z => h.1 (za b z), by rw [upd_ne hne]; exact h.2⟩
  have zd' : ZD (ZA Zc σ (ρ.set i (.own ow))) (upd H a u0) := fun b h => by
    by_cases hb : b = a
    · exact ⟨_, by rw [hb]; exact upd_same⟩
    · obtain ⟨u, hu⟩ := so.e.zd b (za b h)
      exact ⟨u, by rw [upd_ne hb]; exact hu⟩
  have sw : Same H0 (upd H a u0) := fun b u h => by rw [upd_ne (ne_of_none h h2)]; exact so.same b u h
  have ownP : ∀ (j : Nat) (q : Own), (ρ.set i (.own ow))[j]? = some (.own q) → ∃ b, σ[j]? = some (some (.ref b)) ∧ H0 b = none ∧ OwnAt K (cut (ZA Zc σ (ρ.set i (.own ow))) (upd H a u0)) (upd H a u0) b q := fun j q h => by
    rcases ov j q h with ⟨rfl, rfl⟩ | ⟨h4, hj⟩
    · exact ⟨a, ha, h2, r.up sc (Same.refl _)⟩
    · obtain ⟨b, k1, k2, k3⟩ := so.own j q h4
      have hne : b ≠ a := fun z => hj (so.inj i j o q a hi h4 ha (by rw [← z]; exact k1))
      refine ⟨b, k1, k2, ?_⟩
      cases q with
      | lst ds => obtain ⟨zs, m1, m2⟩ := k3; exact ⟨zs, by rw [upd_ne hne]; exact m1, m2.up sc⟩
      | dct ds => obtain ⟨zs, m1, m2⟩ := k3; exact ⟨zs, by rw [upd_ne hne]; exact m1, m2.up sc⟩
  refine ⟨sw, so.zc, ⟨by rw [List.length_set]; exact so.e.len, zd', fun j d h => ?_, fun j ns h => ?_, fun j q h => let ⟨a, b, _, c⟩ := ownP j q h; ⟨a, b, c⟩⟩, ownP, fun j k q q' b k1 k2 k3 k4 => ?_⟩
  · by_cases hj : i = j
    · subst hj
      rw [List.getElem?_set_self hil] at h; cases h
    · rw [List.getElem?_set_ne hj] at h
      obtain ⟨v, h1, h2⟩ := so.e.val j d h
      exact ⟨v, h1, h2.up sc⟩
  · by_cases hj : i = j
    · subst hj
      rw [List.getElem?_set_self hil] at h; cases h
    · rw [List.getElem?_set_ne hj] at h
      obtain ⟨v, h1, h5⟩ := so.e.raw j ns h
      exact ⟨v, h1, SqL.same h5 sc⟩
  · have old : ∀ (j : Nat) (q : Own), (ρ.set i (.own ow))[j]? = some (.own q) → ∃ q', ρ[j]? = some (.own q') := fun j q h => by
      rcases ov j q h with ⟨rfl, _⟩ | ⟨h4, _⟩
      · exact ⟨o, hi⟩
      · exact ⟨q, h4⟩
    obtain ⟨_, o1⟩ := old j q k1
    obtain ⟨_, o2⟩ := old k q' k2
    exact so.inj j k _ _ b o1 o2 k3 k4
theorem SOk.write {i : Nat} {a : Addr} {o : Own} {ys : List V} {es : List D} (so : SOk K Zc H0 H σ ρ) (hi : ρ[i]? = some (.own o)) (ha : σ[i]? = some (some (.ref a))) (r : RpA K (cut (ZA Zc σ ρ) H) ys es) :
    SOk K Zc H0 (upd H a (.lst ys)) σ (ρ.set i (.own (.lst es))) := so.writeN hi ha ⟨ys, upd_same, r⟩
end
end PL

set_option Elab.async false
set_option linter.all false
set_option autoImplicit false
set_option maxRecDepth 100000
/-! PL11: statements -/
namespace PL
open PySem PySem.Spec PyProof.Rows L2
section
variable {K : PySem.W.Frag} {Zc : Addr → Prop} {H0 H H' : Hp} {σ σ' : L2.St} {ρ ρ' : Env}
/-- owned lists read as values -/
@[simp] def rdS : Sl → Sl
  | .own (.lst ds) => .val (.list ds)
  | s => s
def rdE (ρ : Env) : Env := ρ.map rdS
theorem SOk.nz (so : SOk K Zc H0 H σ ρ) {a : Addr} (h : H0 a = none) : ¬ Zc a := fun z => by
  obtain ⟨o, e⟩ := so.zc a z; rw [h] at e; cases e
theorem SOk.own_val {i : Nat} {ds : List D} (so : SOk K Zc H0 H σ ρ) (h : ρ[i]? = some (.own (.lst ds))) : ∃ v, σ[i]? = some (some v) ∧ Rp K (cut Zc H) v (.list ds) := by
  obtain ⟨a, h1, h2, xs, h3, h4⟩ := so.own i _ h
  exact ⟨_, h1, .lst (cut_some.mpr ⟨so.nz h2, h3⟩) (h4.up (Same.cutLe fun b z => .inl z))⟩
theorem SOk.rd (so : SOk K Zc H0 H σ ρ) : EOk K Zc H σ (rdE ρ) := by
  have e := so.e.less (Z' := Zc) fun a z => .inl z
  refine ⟨by unfold rdE; rw [List.length_map]; exact e.len, e.zd, fun i d h => ?_, fun i ns h => ?_, fun i o h => ?_⟩
  · unfold rdE at h
    rw [List.getElem?_map] at h
    cases hi : ρ[i]? with
    | none => rw [hi] at h; cases h
    | some x =>
      rw [hi] at h
      cases x with
      | val d' => cases h; exact e.val i _ hi
      | own o => cases o with
        | lst ds => cases h; exact so.own_val hi
        | dct ds => cases h
      | no => cases h
      | raw ns => cases h
  · unfold rdE at h
    rw [List.getElem?_map] at h
    cases hi : ρ[i]? with
    | none => rw [hi] at h; cases h
    | some x =>
      rw [hi] at h
      cases x with
      | raw ns' => cases h; exact e.raw i _ hi
      | own o => cases o with
        | lst ds => cases h
        | dct ds => cases h
      | no => cases h
      | val d => cases h
  · unfold rdE at h
    rw [List.getElem?_map] at h
    cases hi : ρ[i]? with
    | none => rw [hi] at h; cases h
    | some x =>
      rw [hi] at h
      cases x with
      | raw ns' => cases h
      | own o => cases o with
        | lst ds => cases h
        | dct ds => cases h; exact e.own i _ hi
      | no => cases h
      | val d => cases h
/-- an owned list becomes a value -/
@[simp] def frz (i : Nat) (ρ : Env) : Env := match ρ.getD i .no with
  | .own (.lst ds) => ρ.set i (.val (.list ds))
  | _ => ρ
@[simp] def fgt (i : Nat) (ρ : Env) : Env := ρ.set i .no
theorem getD_of {x : Sl} {i : Nat} (hx : x ≠ .no) (h : ρ.getD i .no = x) : ρ[i]? = some x := by
  rw [List.getD_eq_getElem?_getD] at h
  cases e : ρ[i]? with
  | none => rw [e] at h; exact absurd h.symm hx
  | some s => rw [e] at h; exact congrArg some h
theorem SOk.frzN {i : Nat} {o0 : Own} {d0 : D} (so : SOk K Zc H0 H σ ρ) (hi : ρ[i]? = some (.own o0)) (hv : ∀ (G : Hp) (a : Addr), OwnAt K G H a o0 → ∀ u, G a = some u → G a = H a → Rp K G (.ref a) d0) : SOk K Zc H0 H σ (ρ.set i (.val d0)) := by
  have hil : i < ρ.length := (List.getElem?_eq_some_iff.mp hi).1
  obtain ⟨a, h1, h2, h3⟩ := so.own i _ hi
  have ow : ∀ (j : Nat) (o : Own), (ρ.set i (.val d0))[j]? = some (.own o) → ρ[j]? = some (.own o) ∧ i ≠ j := fun j o h => set_own (x := .val _) (fun _ e => by cases e) h
  have sub : ∀ b, ZA Zc σ (ρ.set i (.val d0)) b → ZA Zc σ ρ b := fun b h => by
    rcases h with h | ⟨j, o, k1, k2⟩
    · exact .inl h
    · exact .inr ⟨j, o, (ow j o k1).1, k2⟩
  have na : ¬ ZA Zc σ (ρ.set i (.val d0)) a := fun h => by
    rcases h with h | ⟨j, o, k1, k2⟩
    · exact so.nz h2 h
    · obtain ⟨k3, k4⟩ := ow j o k1
      exact k4 (so.inj i j _ o a hi k3 h1 k2)
  have e := so.e.less sub
  refine ⟨so.same, so.zc, ⟨by rw [List.length_set]; exact e.len, e.zd, fun j d h => ?_, fun j ns h => ?_, fun j o h => e.own j o (ow j o h).1⟩, fun j o h => ?_, fun j k o o' b k1 k2 k3 k4 => so.inj j k o o' b (ow j o k1).1 (ow k o' k2).1 k3 k4⟩
  · by_cases hj : i = j
    · subst hj
      rw [List.getElem?_set_self hil] at h
      cases h
      obtain ⟨u, hu⟩ := h3.there
      have hc : cut (ZA Zc σ (ρ.set i (.val d0))) H a = some u := cut_some.mpr ⟨na, hu⟩
      exact ⟨_, h1, hv _ a (h3.up (Same.cutLe sub) (Same.refl H)) u hc (by rw [hc, hu])⟩
    · rw [List.getElem?_set_ne hj] at h
      exact e.val j d h
  · by_cases hj : i = j
    · subst hj
      rw [List.getElem?_set_self hil] at h; cases h
    · rw [List.getElem?_set_ne hj] at h
      exact e.raw j ns h
  · obtain ⟨k1, k2⟩ := ow j o h
    obtain ⟨b, m1, m2, m3⟩ := so.own j o k1
    exact ⟨b, m1, m2, m3.up (Same.cutLe sub) (Same.refl H)⟩
theorem SOk.frz (i : Nat) (so : SOk K Zc H0 H σ ρ) : SOk K Zc H0 H σ (PL.frz i ρ) := by
  unfold PL.frz
  split
  · next ds hd => exact so.frzN (getD_of (by simp) hd) fun G a ⟨xs, h3, h4⟩ u hu he => .lst (he.trans h3) h4
  · exact so
theorem SOk.fgt (i : Nat) (so : SOk K Zc H0 H σ ρ) : SOk K Zc H0 H σ (PL.fgt i ρ) := by
  unfold PL.fgt
  refine so.of (Same.refl H) ⟨by rw [List.length_set]; exact so.e.len, so.e.zd, fun j d h => ?_, fun j ns h => ?_, fun j o h => so.e.own j o (set_own (x := .no) (fun _ e => by cases e) h).1⟩ fun j o h => ⟨(set_own (x := .no) (fun _ e => by cases e) h).1, rfl⟩
  · by_cases hj : i = j
    · subst hj
      rw [List.getElem?_set] at h
      simp only [if_true] at h
      split at h <;> cases h
    · rw [List.getElem?_set_ne hj] at h
      exact so.e.val j d h
  · by_cases hj : i = j
    · subst hj
      rw [List.getElem?_set] at h
      simp only [if_true] at h
      split at h <;> cases h
    · rw [List.getElem?_set_ne hj] at h
      exact so.e.raw j ns h
end

/-! ### ends -/
inductive O where
  | nx (ρ : Env) | rt (d : D) | bk (ρ : Env) | ct (ρ : Env) | ex (c : Str) (ρ : Env) | bad
def PoS (K : PySem.W.Frag) (mg : Str → Option Value) (W : WX) (Zc : Addr → Prop) (H0 : Hp) (E : Ends) : O → Prop
  | .nx ρ => ∀ σ H, SOk K Zc H0 H σ ρ → E.nx σ H
  | .rt d => ∀ v H, Same H0 H → Rp K (cut Zc H) v d → E.rt v H
  | .bk ρ => ∀ σ H, SOk K Zc H0 H σ ρ → E.bk σ H
  | .ct ρ => ∀ σ H, SOk K Zc H0 H σ ρ → E.ct σ H
  | .ex c ρ => ∀ σ H C, SOk K Zc H0 H σ ρ → mg c = some (.ref C) → W (.ref C) none σ H
  | .bad => False
def tS (K : PySem.W.Frag) (mg : Str → Option Value) (W : WX) (f : Env → O) : TS := fun E σ H => ∃ Zc H0 ρ, SOk K Zc H0 H σ ρ ∧ PoS K mg W Zc H0 E (f ρ)
structure FS (X : Cx) (W : WX) (st : Stmt) (f : Env → O) : Prop where
  ps : PS X st (tS X.K X.mg W f)
structure FSs (X : Cx) (W : WX) (sts : List Stmt) (f : Env → O) : Prop where
  pss : PSs X sts (tS X.K X.mg W f)
theorem PS.imp {X : Cx} {st : Stmt} {t t' : TS} (h : PS X st t) (i : ∀ E σ H, t' E σ H → t E σ H) : PS X st t' := ⟨fun pins s σ H E I q => h.run pins s σ H E I (i E σ H q)⟩
theorem PSs.imp {X : Cx} {st : List Stmt} {t t' : TS} (h : PSs X st t) (i : ∀ E σ H, t' E σ H → t E σ H) : PSs X st t' := ⟨fun pins s σ H E I q => h.run pins s σ H E I (i E σ H q)⟩

/-! ### an expression in a statement: m tells whether owned lists are let alone (then any value), or read (then a bare one) -/
@[simp] def scal : D → Bool
  | .none => true | .bool _ => true | .int _ => true | .str _ => true
  | _ => false
@[simp] def evm (m : Bool) (f : Env → R D) (ρ : Env) : R D := match m with
  | true => f ρ
  | false => match f (rdE ρ) with
    | .ok d => if scal d = true then .ok d else .bad
    | .exc c => .exc c
    | .bad => .bad
theorem Rp.scal {K : PySem.W.Frag} {H H' : Hp} {v : V} {d : D} (h : Rp K H v d) (s : PL.scal d = true) : Rp K H' v d := by
  cases h with
  | non => exact .non
  | bl b => exact .bl b
  | int i => exact .int i
  | str x => exact .str x
  | lst _ _ => simp at s
  | tup _ _ => simp at s
  | dct _ _ => simp at s
section
variable {K : PySem.W.Frag} {mg : Str → Option Value} {W : WX} {Zc : Addr → Prop} {H0 H H' : Hp} {σ σ' : L2.St} {ρ ρ' : Env} {E : Ends} {f : Env → R D}
theorem evm_reads {m : Bool} {Q : VK} (so : SOk K Zc H0 H σ ρ) (q : PoE K mg W (ZA Zc σ ρ) σ H Q (evm m f ρ)) : tF K mg W f σ H Q := by
  cases m with
  | true => exact ⟨_, ρ, so.e, q⟩
  | false =>
    refine ⟨Zc, rdE ρ, so.rd, ?_⟩
    simp only [evm] at q
    cases r : f (rdE ρ) with
    | ok d =>
      simp only [r] at q
      split at q
      · next hs => exact fun v H' s p => q v H' s (p.scal hs)
      · exact q.elim
    | exc c => simp only [r] at q; exact q
    | bad => simp only [r] at q; exact q.elim
/-- an exception out of an expression -/
theorem PoS.exc {c : Str} (h : PoS K mg W Zc H0 E (.ex c ρ)) (so : SOk K Zc H0 H σ ρ) : ∀ H' C, Same H H' → mg c = some (.ref C) → W (.ref C) none σ H' := fun H' C s m => h σ H' C (so.up s) m
theorem PoS.nxUp (h : PoS K mg W Zc H0 E (.nx ρ)) {E' : Ends} (i : ∀ σ H, E.nx σ H → E'.nx σ H) : PoS K mg W Zc H0 E' (.nx ρ) := fun σ H so => i _ _ (h σ H so)
/-- expression, then a state or a fault -/
@[simp] def thenS (r : R D) (ρ : Env) (k : D → O) : O := match r with
  | .ok d => k d
  | .exc c => .ex c ρ
  | .bad => .bad
theorem ev_then {m : Bool} {k : D → O} {Q : VK} (so : SOk K Zc H0 H σ ρ) (q : PoS K mg W Zc H0 E (thenS (evm m f ρ) ρ k))
    (go : ∀ d v H', evm m f ρ = .ok d → PoS K mg W Zc H0 E (k d) → Same H H' → Rp K (cut (ZA Zc σ ρ) H') v d → Q v H') : tF K mg W f σ H Q := by
  refine evm_reads (m := m) so ?_
  cases r : evm m f ρ with
  | ok d => rw [r] at q; exact fun v H' s p => go d v H' r q s p
  | exc c => rw [r] at q; exact PoS.exc q so
  | bad => rw [r] at q; exact q.elim
end

/-! ### stores -/
def Keeps (is : List Nat) (put : D → Env → R Env) : Prop := ∀ d ρ ρ', put d ρ = .ok ρ' → ∀ (j : Nat) (o : Own), ρ'[j]? = some (.own o) → ρ[j]? = some (.own o) ∧ j ∉ is
def KeepsL (is : List Nat) (put : List D → Env → R Env) : Prop := ∀ d ρ ρ', put d ρ = .ok ρ' → ∀ (j : Nat) (o : Own), ρ'[j]? = some (.own o) → ρ[j]? = some (.own o) ∧ j ∉ is
theorem keeps_one (i : Nat) : Keeps [i] (pOne i) := fun d ρ ρ' h j o e => by
  cases h
  obtain ⟨a, b⟩ := set_own (x := .val d) (fun _ e => by cases e) e
  exact ⟨a, by simpa using Ne.symm b⟩
theorem keeps_nil : KeepsL [] pNil := fun d ρ ρ' h j o e => by
  cases d with
  | nil => cases h; exact ⟨e, by simp⟩
  | cons _ _ => cases h
theorem keeps_cons {is js : List Nat} {p : D → Env → R Env} {q : List D → Env → R Env} (h1 : Keeps is p) (h2 : KeepsL js q) : KeepsL (is ++ js) (pCons p q) := fun d ρ ρ' h j o e => by
  cases d with
  | nil => cases h
  | cons d ds =>
    unfold pCons at h
    cases r : p d ρ with
    | ok ρ1 =>
      simp only [r, R.bind] at h
      obtain ⟨a, b⟩ := h2 _ _ _ h j o e
      obtain ⟨a2, b2⟩ := h1 _ _ _ r j o a
      exact ⟨a2, fun z => (List.mem_append.mp z).elim b2 b⟩
    | exc c => simp only [r, R.bind] at h; cases h
    | bad => simp only [r, R.bind] at h; cases h
theorem keeps_tup {n : Nat} {is : List Nat} {q : List D → Env → R Env} (h : KeepsL is q) : Keeps is (pTup n q) := fun d ρ ρ' e => by
  cases d with
  | tuple ds =>
    simp only [pTup] at e
    split at e
    · exact h _ _ _ e
    · cases e
  | _ => cases e
@[simp] def putO (put : D → Env → R Env) (d : D) (ρ : Env) : O := match put d ρ with
  | .ok ρ' => .nx ρ'
  | _ => .bad
section
variable {K : PySem.W.Frag} {mg : Str → Option Value} {W : WX} {Zc : Addr → Prop} {H0 H H' : Hp} {σ σ' : L2.St} {ρ ρ' : Env} {E : Ends} {f : Env → R D}
theorem put_go {s : Bool} {is : List Nat} {put : D → Env → R Env} {v : V} {d : D} (kp : Keeps is put) (so : SOk K Zc H0 H σ ρ) (r : RpS s K (cut (ZA Zc σ ρ) H) v d) {Q : L2.St → Hp → Prop}
    (q : match put d ρ with | .ok ρ' => (∀ σ', SOk K Zc H0 H σ' ρ' → Q σ' H) | _ => False) : gF K s is put v σ H Q := by
  refine ⟨_, d, ρ, so.e, r, ?_⟩
  cases e : put d ρ with
  | ok ρ' =>
    rw [e] at q
    exact fun σ' e' _ hu => q σ' (so.of (Same.refl H) e' fun j o h => let ⟨a, b⟩ := kp d ρ ρ' e j o h; ⟨a, hu j b⟩)
  | exc c => rw [e] at q; exact q
  | bad => rw [e] at q; exact q
/-- target = e -/
@[simp] def sSet (m : Bool) (f : Env → R D) (put : D → Env → R Env) : Env → O := fun ρ => thenS (evm m f ρ) ρ fun d => putO put d ρ
theorem set_reads {m : Bool} {is : List Nat} {put : D → Env → R Env} {g : TG} (kp : Keeps is put) (hg : ∀ v σ H Q, gF K true is put v σ H Q → g v σ H Q) (q : tS K mg W (sSet m f put) E σ H) : tAsg (tF K mg W f) g E σ H := by
  obtain ⟨Zc, H0, ρ, so, q⟩ := q
  refine ev_then so q fun d v H' r q s p => hg _ _ _ _ ?_
  refine put_go (s := true) kp (so.up s) p ?_
  unfold putO at q
  cases e : put d ρ with
  | ok ρ' => rw [e] at q; exact fun σ' so' => q σ' H' so'
  | exc c => rw [e] at q; exact q
  | bad => rw [e] at q; exact q
theorem gF_name {i : Nat} : ∀ v σ H Q, gF K true [i] (pOne i) v σ H Q → gName i v σ H Q := fun v σ H Q ⟨Z, d, ρ, e, r, q⟩ => q _ (e.put r) (List.length_set ..) fun j hj => List.getElem?_set_ne (fun z => hj (by simp [z]))
/-- name = a new list, owned -/
@[simp] def sSetN (i : Nat) (f : Env → R (List D)) : Env → O := fun ρ => match f ρ with
  | .ok ds => if i < ρ.length then .nx (ρ.set i (.own (.lst ds))) else .bad
  | .exc c => .ex c ρ
  | .bad => .bad
theorem setN_reads {i : Nat} {f : Env → R (List D)} (q : tS K mg W (sSetN i f) E σ H) : tAsg (tN K mg W f) (gName i) E σ H := by
  obtain ⟨Zc, H0, ρ, so, q⟩ := q
  refine ⟨_, ρ, so.e, ?_⟩
  unfold sSetN at q
  cases r : f ρ with
  | ok ds =>
    simp only [r] at q
    split at q
    · next hi => exact fun p xs H' s n l a => q _ _ (so.putO s n l a hi)
    · exact q.elim
  | exc c => simp only [r] at q; exact PoS.exc q so
  | bad => simp only [r] at q; exact q.elim
end
section
variable {X : Cx} {W : WX} {f : Env → R D} {pos : Pos}
theorem fs_set (m : Bool) {i : Nat} {x : Str} {e : Expr} {pos' : Pos} (hN : X.N.Nodup) (he : FE X W e f) (hi : X.N[i]? = some x := by rfl) (hx : Loc X.env.scope x := by exact Or.inl rfl) (hs : swapsWith e (some (.Name x pos')) pos.line X.env = pure false := by rfl) (hf : X.fn x = true ∨ X.env.scope.names.lookup x = some .local := by first | exact .inl rfl | exact .inr rfl | assumption) :
    FS X W (.Assign [.Name x pos'] e pos) (sSet m f (pOne i)) := ⟨PS.imp (ps_set hN hi hx he.pe hs hf) fun E σ H q => set_reads (keeps_one i) gF_name q⟩
theorem fs_setN {i : Nat} {x : Str} {e : Expr} {f : Env → R (List D)} {pos' : Pos} (hN : X.N.Nodup) (he : FN X W e f) (hi : X.N[i]? = some x := by rfl) (hx : Loc X.env.scope x := by exact Or.inl rfl) (hs : swapsWith e (some (.Name x pos')) pos.line X.env = pure false := by rfl) (hf : X.fn x = true ∨ X.env.scope.names.lookup x = some .local := by first | exact .inl rfl | exact .inr rfl | assumption) :
    FS X W (.Assign [.Name x pos'] e pos) (sSetN i f) := ⟨PS.imp (ps_set hN hi hx he.pe hs hf) fun E σ H q => setN_reads q⟩
/-- name = [..], by the form that stores on one line -/
theorem tN_lst {K : PySem.W.Frag} {mg : Str → Option Value} {σ : L2.St} {H : Hp} {Q : VK} {f : Env → R (List D)} (q : tF K mg W (sLst f) σ H Q) : tN K mg W f σ H Q := by
  obtain ⟨Z, ρ, e, q⟩ := q
  refine ⟨Z, ρ, e, ?_⟩
  unfold sLst at q
  cases r : f ρ with
  | ok ds =>
    rw [r] at q
    intro p xs H' s n l a
    exact q _ _ s (.lst (cut_some.mpr ⟨e.zd.fresh n, l⟩) (a.up (Same.cutLe fun b z => .inl z)))
  | exc c => rw [r] at q; exact q
  | bad => rw [r] at q; exact q
theorem fs_lc (m : Bool) {i : Nat} {st : Stmt} {f : Env → R (List D)} (h : PS X st (tAsg (tN X.K X.mg W f) (gName i))) : FS X W st (sSet m (sLst f) (pOne i)) :=
  ⟨PS.imp h fun E σ H q => tN_lst (set_reads (keeps_one i) gF_name q)⟩
theorem fs_lcN {i : Nat} {st : Stmt} {f : Env → R (List D)} (h : PS X st (tAsg (tN X.K X.mg W f) (gName i))) : FS X W st (sSetN i f) := ⟨PS.imp h fun E σ H q => setN_reads q⟩
/-- a, b = e -/
theorem fs_setT (m : Bool) {tg e : Expr} {is : List Nat} {put : D → Env → R Env} (he : FE X W e f) (hg : FG X tg true is put) (kp : Keeps is put) (hs : swapsWithSole [tg] e pos.line X.env = pure false := by rfl) (hw : swappedStores [tg] e X.env = pure none := by rfl)
    (h1 : (assignEach [tg] X.env).map (·.2) = [assign tg X.env] := by rfl) : FS X W (.Assign [tg] e pos) (sSet m f put) := ⟨PS.imp (ps_asg he.pe hg.pg hs hw h1) fun E σ H q => set_reads kp (fun _ _ _ _ h => h) q⟩

/-! ### simple statements -/
@[simp] def sNx : Env → O := fun ρ => .nx ρ
@[simp] def sBk : Env → O := fun ρ => .bk ρ
@[simp] def sCt : Env → O := fun ρ => .ct ρ
theorem fs_pass : FS X W (.Pass pos) sNx := ⟨PS.imp ps_pass fun E σ H ⟨_, _, ρ, so, q⟩ => q σ H so⟩
theorem fs_doc {x j p} : FS X W (.Expr (.Constant (.str x) j p) pos) sNx := ⟨PS.imp ps_doc fun E σ H ⟨_, _, ρ, so, q⟩ => q σ H so⟩
theorem fs_break : FS X W (.Break pos) sBk := ⟨PS.imp ps_break fun E σ H ⟨_, _, ρ, so, q⟩ => q σ H so⟩
theorem fs_cont : FS X W (.Continue pos) sCt := ⟨PS.imp ps_continue fun E σ H ⟨_, _, ρ, so, q⟩ => q σ H so⟩
/-- an expression, its value dropped -/
@[simp] def sDrop (m : Bool) (f : Env → R D) : Env → O := fun ρ => thenS (evm m f ρ) ρ fun _ => .nx ρ
theorem fs_drop (m : Bool) {e : Expr} (he : FE X W e f) (hs : swapsWith e none pos.line X.env = pure false := by rfl) : FS X W (.Expr e pos) (sDrop m f) :=
  ⟨PS.imp (ps_expr he.pe hs) fun E σ H ⟨_, _, ρ, so, q⟩ => ev_then so q fun d v H' r q s p => q σ H' (so.up s)⟩
/-- return -/
@[simp] def sRet (f : Env → R D) : Env → O := fun ρ => match f (rdE ρ) with
  | .ok d => .rt d
  | .exc c => .ex c ρ
  | .bad => .bad
theorem fs_ret {e : Expr} (he : FE X W e f) : FS X W (.Return (some e) pos) (sRet f) :=
  ⟨PS.imp (ps_ret he.pe) fun E σ H ⟨Zc, H0, ρ, so, q⟩ => by
    refine ⟨Zc, rdE ρ, so.rd, ?_⟩
    simp only [sRet] at q
    cases r : f (rdE ρ) with
    | ok d => rw [r] at q; exact fun v H' s p => q v H' (so.same.trans s) p
    | exc c => rw [r] at q; exact PoS.exc q so
    | bad => rw [r] at q; exact q.elim⟩
@[simp] def sRetN : Env → O := fun _ => .rt .none
theorem fs_retN : FS X W (.Return none pos) sRetN := ⟨PS.imp ps_retN fun E σ H ⟨_, _, ρ, so, q⟩ => q .non H so.same .non⟩
/-- raise X("..") -/
@[simp] def sRs (c : Str) : Env → O := fun ρ => .ex c ρ
theorem fs_raise {x m : Str} {j : Nat} {p p2 pos' : Pos} {C : Addr} {bmB : List Value} {B newId initId : String} (hc : X.calm = true) (tk : Takes X W) (F : ExcBaseFacts B newId initId bmB) (q : PySem.W.excIn X.K C bmB newId = true) (gC : X.mg x = some (.ref C)) (kC : PySem.W.keepIn X.K (.ref C) = true) (r : Raises X (.ref C)) (hg : Gl X x)
    (hdb : (x == ("__debug__" : Str)) = false := by decide) : FS X W (.Raise (some (.Call (.Name x p) [.Constant (.str m) j p2] [] pos')) none pos) (sRs x) :=
  ⟨PS.imp (ps_raise hc tk (pmk_own F q gC kC r hg hdb)) fun E σ H ⟨_, _, ρ, so, q⟩ => q σ H C so gC⟩

/-! ### rows of statements -/
@[simp] def sSeq (f g : Env → O) : Env → O := fun ρ => match f ρ with
  | .nx ρ' => g ρ'
  | o => o
theorem fss_nil : FSs X W [] sNx := ⟨PSs.imp pss_nil fun E σ H ⟨_, _, ρ, so, q⟩ => q σ H so⟩
theorem fss_one {st : Stmt} {f : Env → O} (h : FS X W st f) : FSs X W [st] f := ⟨pss_one h.ps⟩
theorem PoS.seq {K : PySem.W.Frag} {mg : Str → Option Value} {Zc : Addr → Prop} {H0 : Hp} {E : Ends} {o : O} {g : Env → O} (q : PoS K mg W Zc H0 E (match o with | .nx ρ' => g ρ' | o => o)) : PoS K mg W Zc H0 { E with nx := tS K mg W g E } o := by
  cases o with
  | nx ρ' => exact fun σ H so => ⟨Zc, H0, ρ', so, q⟩
  | _ => exact q
theorem fss_cons {st : Stmt} {sts : List Stmt} {f g : Env → O} (h1 : FS X W st f) (h2 : FSs X W sts g) : FSs X W (st :: sts) (sSeq f g) :=
  ⟨PSs.imp (pss_cons h1.ps h2.pss) fun E σ H ⟨Zc, H0, ρ, so, q⟩ => ⟨Zc, H0, ρ, so, PoS.seq q⟩⟩
/-- ahead of a statement: owned lists become values, slots are forgotten -/
theorem fs_frz (i : Nat) {st : Stmt} {f : Env → O} (h : FS X W st f) : FS X W st (fun ρ => f (frz i ρ)) := ⟨PS.imp h.ps fun E σ H ⟨Zc, H0, ρ, so, q⟩ => ⟨Zc, H0, _, so.frz i, q⟩⟩
theorem fs_fgt (i : Nat) {st : Stmt} {f : Env → O} (h : FS X W st f) : FS X W st (fun ρ => f (fgt i ρ)) := ⟨PS.imp h.ps fun E σ H ⟨Zc, H0, ρ, so, q⟩ => ⟨Zc, H0, _, so.fgt i, q⟩⟩
theorem fss_frz (i : Nat) {st : List Stmt} {f : Env → O} (h : FSs X W st f) : FSs X W st (fun ρ => f (frz i ρ)) := ⟨PSs.imp h.pss fun E σ H ⟨Zc, H0, ρ, so, q⟩ => ⟨Zc, H0, _, so.frz i, q⟩⟩
theorem fss_fgt (i : Nat) {st : List Stmt} {f : Env → O} (h : FSs X W st f) : FSs X W st (fun ρ => f (fgt i ρ)) := ⟨PSs.imp h.pss fun E σ H ⟨Zc, H0, ρ, so, q⟩ => ⟨Zc, H0, _, so.fgt i, q⟩⟩
/-- behind a row: slots are forgotten -/
@[simp] def sFg (is : List Nat) (f : Env → O) : Env → O := fun ρ => match f ρ with
  | .nx ρ' => .nx (is.foldl (fun ρ i => fgt i ρ) ρ')
  | .ct ρ' => .ct (is.foldl (fun ρ i => fgt i ρ) ρ')
  | o => o
theorem SOk.fgts {K : PySem.W.Frag} {Zc : Addr → Prop} {H0 H : Hp} {σ : L2.St} : ∀ (is : List Nat) {ρ : Env}, SOk K Zc H0 H σ ρ → SOk K Zc H0 H σ (is.foldl (fun ρ i => PL.fgt i ρ) ρ)
  | [], _, h => h
  | i :: is, _, h => SOk.fgts is (h.fgt i)
theorem fss_fg (is : List Nat) {sts : List Stmt} {f : Env → O} (h : FSs X W sts f) : FSs X W sts (sFg is f) :=
  ⟨PSs.imp h.pss fun E σ H ⟨Zc, H0, ρ, so, q⟩ => ⟨Zc, H0, ρ, so, by
    unfold sFg at q
    cases r : f ρ with
    | nx ρ' => rw [r] at q; exact fun σ' H' so' => q σ' H' (so'.fgts is)
    | ct ρ' => rw [r] at q; exact fun σ' H' so' => q σ' H' (so'.fgts is)
    | _ => rw [r] at q; exact q⟩⟩

/-! ### if -/
@[simp] def sIf (t : Env → R Bool) (f g : Env → O) : Env → O := fun ρ => match t (rdE ρ) with
  | .ok true => f ρ
  | .ok false => g ρ
  | .exc c => .ex c ρ
  | .bad => .bad
theorem fs_if {c : Expr} {a b : List Stmt} {t : Env → R Bool} {f g : Env → O} (hc : FT X W c t) (ha : FSs X W a f) (hb : FSs X W b g) : FS X W (.If c a b pos) (sIf t f g) :=
  ⟨PS.imp (ps_if hc.pt ha.pss hb.pss) fun E σ H ⟨Zc, H0, ρ, so, q⟩ => by
    refine ⟨Zc, rdE ρ, so.rd, ?_⟩
    simp only [sIf] at q
    cases r : t (rdE ρ) with
    | ok k =>
      simp only [r] at q
      intro H1 s1
      cases k with
      | true => rw [if_pos rfl]; exact ⟨Zc, H0, ρ, so.up s1, q⟩
      | false => rw [if_neg Bool.false_ne_true]; exact ⟨Zc, H0, ρ, so.up s1, q⟩
    | exc c => simp only [r] at q; exact PoS.exc q so
    | bad => simp only [r] at q; exact q.elim⟩

/-! ### for -/
def forGo (put : D → Env → R Env) (body : Env → O) : List D → Env → O
  | [], ρ => .nx ρ
  | d :: ds, ρ => match put d ρ with
    | .ok ρ' => match body ρ' with
      | .nx ρ'' => forGo put body ds ρ''
      | .ct ρ'' => forGo put body ds ρ''
      | .bk ρ'' => .nx ρ''
      | o => o
    | _ => .bad
@[simp] def sFor (items : Env → R (List D)) (put : D → Env → R Env) (body : Env → O) : Env → O := fun ρ => match items ρ with
  | .ok ds => forGo put body ds ρ
  | .exc c => .ex c ρ
  | .bad => .bad
theorem PoS.weak {K : PySem.W.Frag} {mg : Str → Option Value} {Zc : Addr → Prop} {H0 H0' : Hp} {E : Ends} {o : O} (q : PoS K mg W Zc H0 E o) (s : Same H0 H0') (z : ZD Zc H0) : PoS K mg W Zc H0' E o := by
  cases o with
  | nx ρ => exact fun σ H so => q σ H (so.weak s z)
  | rt d => exact fun v H s' p => q v H (s.trans s') p
  | bk ρ => exact fun σ H so => q σ H (so.weak s z)
  | ct ρ => exact fun σ H so => q σ H (so.weak s z)
  | ex c ρ => exact fun σ H C so => q σ H C (so.weak s z)
  | bad => exact q
theorem fs_for {tg iter : Expr} {body : List Stmt} {s : Bool} {is : List Nat} {items : Env → R (List D)} {put : D → Env → R Env} {fb : Env → O} (hp : PassesOwn (model X.prog X.w) X.A X.env X.xe) (hc : X.calm = true) (hi : FI X W tg iter s items) (hg : FG X tg s is put) (kp : Keeps is put) (hb : FSs X W body fb)
    (hs : ∀ x, foldedSetIterable iter X.env x = pure x := by intro _; rfl) : FS X W (.For tg iter body [] pos) (sFor items put fb) :=
  ⟨PS.imp (ps_for hp hc hi.pi hg.pg hb.pss hs) fun E σ H ⟨Zc, H0, ρ, so, q⟩ => by
    refine ⟨_, ρ, so.e, ?_⟩
    unfold sFor at q
    cases r : items ρ with
    | exc c => rw [r] at q; exact PoS.exc q so
    | bad => rw [r] at q; exact q.elim
    | ok ds =>
      rw [r] at q
      intro J H1 s1 w
      have so1 := so.up s1
      -- the frame: everything but what is owned
      have hH0 : Same H0 (cut (ZO σ ρ) H1) := fun a o h => by
        rw [cut_some]
        refine ⟨fun ⟨i, q, h1, h2⟩ => ?_, so1.same a o h⟩
        obtain ⟨b, k1, k2, _⟩ := so1.own i q h1
        rw [h2] at k1; cases k1
        rw [h] at k2; cases k2
      have zH : ZD Zc (cut (ZO σ ρ) H1) := so.zc.up hH0
      have soH : SOk X.K Zc (cut (ZO σ ρ) H1) H1 σ ρ := ⟨Same.uncut, zH, so1.e, fun i o h => by
        obtain ⟨a, h1, h2, h3⟩ := so1.own i o h
        refine ⟨a, h1, ?_, h3⟩
        cases e : cut (ZO σ ρ) H1 a with
        | none => rfl
        | some u => exact absurd ⟨i, o, h, h1⟩ (cut_some.mp e).1, so1.inj⟩
      refine for_it w (fun i σ' H2 => ∃ ρ', SOk X.K Zc (cut (ZO σ ρ) H1) H2 σ' ρ' ∧ PoS X.K X.mg W Zc H0 E (forGo put fb (ds.drop i) ρ')) ⟨ρ, soH, q⟩ (fun i σ' H2 _ ⟨ρ', so', _⟩ => ?_) (fun i x σ' H2 H3 hlt ⟨ρ', so', q'⟩ y => ?_) fun σ' H2 ⟨ρ', so', q'⟩ => ?_
      · exact (Same.cutLe fun a z => .inr z).trans so'.same
      · obtain ⟨d, hd, s23, rep⟩ := y
        have hdrop : ds.drop i = d :: ds.drop (i + 1) := by
          rw [List.drop_eq_getElem_cons hlt]
          congr 1
          rw [List.getElem?_eq_getElem hlt] at hd
          exact Option.some.inj hd
        rw [hdrop] at q'
        unfold forGo at q'
        have sc : Same (cut (ZA Zc σ ρ) H1) (cut (ZA Zc σ' ρ') H2) := fun a o h => by
          rw [cut_some] at h ⊢
          have hc' : cut (ZO σ ρ) H1 a = some o := cut_some.mpr ⟨fun z => h.1 (.inr z), h.2⟩
          refine ⟨fun z => ?_, so'.same a o hc'⟩
          rcases z with z | ⟨j, oo, k1, k2⟩
          · exact h.1 (.inl z)
          · obtain ⟨b, m1, m2, _⟩ := so'.own j oo k1
            rw [k2] at m1; cases m1
            rw [hc'] at m2; cases m2
        refine put_go kp (so'.up s23) (rep _ so'.e.zd sc) ?_
        cases e : put d ρ' with
        | ok ρ2 =>
          rw [e] at q'
          intro σ2 so2
          refine ⟨Zc, _, ρ2, so2, ?_⟩
          simp only at q'
          cases e2 : fb ρ2 with
          | nx ρ3 => rw [e2] at q'; exact fun σ3 H3 so3 => ⟨ρ3, so3, q'⟩
          | ct ρ3 => rw [e2] at q'; exact fun σ3 H3 so3 => ⟨ρ3, so3, q'⟩
          | bk ρ3 => rw [e2] at q'; exact fun σ3 H3 so3 => q' σ3 H3 (so3.weak hH0 so.zc)
          | rt d => rw [e2] at q'; exact (show PoS X.K X.mg W Zc H0 E (.rt d) from q').weak hH0 so.zc
          | ex c ρ3 => rw [e2] at q'; exact (show PoS X.K X.mg W Zc H0 E (.ex c ρ3) from q').weak hH0 so.zc
          | bad => rw [e2] at q'; exact q'
        | exc c => rw [e] at q'; exact q'.elim
        | bad => rw [e] at q'; exact q'.elim
      · rw [List.drop_length] at q'
        exact q' σ' H2 (so'.weak hH0 so.zc)⟩

/-! ### while -/
def whGo (t : Env → R Bool) (body : Env → O) : Nat → Env → O
  | 0, _ => .bad
  | n + 1, ρ => match t (rdE ρ) with
    | .ok true => match body ρ with
      | .nx ρ' => whGo t body n ρ'
      | .ct ρ' => whGo t body n ρ'
      | .bk ρ' => .nx ρ'
      | o => o
    | .ok false => .nx ρ
    | .exc c => .ex c ρ
    | .bad => .bad
theorem fs_while (fuel : Nat) {c : Expr} {body : List Stmt} {t : Env → R Bool} {fb : Env → O} (hp : PassesOwn (model X.prog X.w) X.A X.env X.xe) (hc : FT X W c t) (hb : FSs X W body fb) : FS X W (.While c body [] pos) (fun ρ => whGo t fb fuel ρ) :=
  ⟨PS.imp (ps_while hp hc.pt hb.pss) fun E σ H ⟨Zc, H0, ρ, so, q⟩ => by
    refine ⟨fun m σ' H' => ∃ ρ', SOk X.K Zc H0 H' σ' ρ' ∧ PoS X.K X.mg W Zc H0 E (whGo t fb m ρ'), ⟨fuel, ρ, so, q⟩, ?_⟩
    rintro m σ' H' ⟨ρ', so', q'⟩
    cases m with
    | zero => exact q'.elim
    | succ n =>
      unfold whGo at q'
      refine ⟨Zc, rdE ρ', so'.rd, ?_⟩
      cases r : t (rdE ρ') with
      | ok k =>
        simp only [r] at q'
        intro H1 s1
        cases k with
        | true =>
          rw [if_pos rfl]
          refine ⟨fun σ2 H2 => ∃ ρ2, SOk X.K Zc H0 H2 σ2 ρ2 ∧ PoS X.K X.mg W Zc H0 E (whGo t fb n ρ2), fun σ2 H2 h => ⟨n, Nat.lt_succ_self n, h⟩, Zc, H0, ρ', so'.up s1, ?_⟩
          simp only at q'
          cases e2 : fb ρ' with
          | nx ρ3 => rw [e2] at q'; exact fun σ3 H3 so3 => ⟨ρ3, so3, q'⟩
          | ct ρ3 => rw [e2] at q'; exact fun σ3 H3 so3 => ⟨ρ3, so3, q'⟩
          | bk ρ3 => rw [e2] at q'; exact fun σ3 H3 so3 => q' σ3 H3 so3
          | rt d => rw [e2] at q'; exact q'
          | ex c ρ3 => rw [e2] at q'; exact q'
          | bad => rw [e2] at q'; exact q'
        | false => rw [if_neg Bool.false_ne_true]; exact q' σ' H1 (so'.up s1)
      | exc c => simp only [r] at q'; exact PoS.exc q' so'
      | bad => simp only [r] at q'; exact q'.elim⟩
end
end PL

set_option Elab.async false
set_option linter.all false
set_option autoImplicit false
set_option maxRecDepth 100000
set_option maxHeartbeats 4000000
/-! PL12: tuple * int; stores into owned lists; op=; try; defs -/
namespace PL
open PySem PySem.Spec PyProof.Rows L2
theorem tuple_mul1 (l : Addr) (items : Array Value) (n : Nat) (dd : Option Addr) (sl : Array (Option Value)) (u : Tok) :
    Meets (Builtin.«tuple.__mul__» ⟨[.ref l, .int 1 u], []⟩) (fun _ R s => s.heap.get? l = some { cls := .type "tuple", dict := dd, data := .seq items n, slots := sl } ∧ R (.ok (.ret (Value.ref l))) s) :=
  .of_wp fun prog w A R s h => by
    obtain ⟨hp, g, d, tk, os⟩ := s
    obtain ⟨hl, h⟩ := h
    have f1 := AutoSeq1.idx_int
    wp_walk using wpAny_loadPart' hl
    repeat (first
      | (refine wpAny_ite_true (decide_eq_true (by simp)) ?_; wp_walk using wpAny_loadPart' hl)
      | (refine wpAny_ite_false (decide_eq_false (by simp)) ?_; wp_walk using wpAny_loadPart' hl))
    exact ⟨_, rfl, h⟩
section
variable {X : Cx}
/-- t * k, a new tuple laid with its object known; once: the tuple itself -/
def rRepF (K : PySem.W.Frag) : R2 := fun x y H Q => ∃ l k xs, x = .ref l ∧ y = .int k ∧ SqT K H l xs ∧ xs ≠ [] ∧ 1 ≤ k ∧ k ≤ 1000 ∧ xs.length ≤ 1000 ∧
  (k = 1 → Q (.ref l) H) ∧ (k ≠ 1 → ∀ p o, H p = none → o.dict = none → Q (.ref p) (upd H p (.frz o (.tup (List.replicate k.toNat xs).flatten))))
theorem op_repF : OpR X (binaryOp .Mult) (rRepF X.K) := by
  intro pins s σ H x y v u Q I rx ry h
  obtain ⟨l, k, xs, rfl, rfl, hT, hne, h1, h2, hz, q1, q2⟩ := h
  cases rx
  obtain ⟨t, rfl⟩ := ry
  obtain ⟨its, r, ⟨⟨cls, dd, data, sl⟩, ho, hc, n, hd⟩, hs⟩ := I.tuple hT
  simp only at hc hd
  subst hc hd
  by_cases hk1 : k = 1
  · subst hk1
    refine wpAny_binaryOp_repeat_ref (T := "tuple") (U := "int") (by decide) ⟨_, ho, rfl⟩ (fun s' => typeIs_int s' 1 t) noFill_tuple_mul F.fills_int_mul F.slot_int_rmul repeat_tuple F.slot_int_index.lookup
      (call_meets F.slot_int_rmul (typeIs_int s 1 t) F.entry_int_rmul (F.args_int_rmul_2 _ _) (int_rmul_tuple 1 t l its.toArray n dd sl)
        ⟨ho, rfl, ⟨_, ho, rfl⟩, call_meets F.slot_tuple_mul ⟨_, ho, rfl⟩ F.entry_tuple_mul (F.args_tuple_mul_2 _ _) (tuple_mul1 l its.toArray n dd sl t) ⟨ho, .ref l, H, I, rfl, q1 rfl⟩⟩)
  have hle : its.length = xs.length := r.length.symm
  have hn : its ≠ [] := fun e => hne (by
    rw [e] at hle
    exact List.eq_nil_of_length_eq_zero hle.symm)
  have hi : its.toArray.isEmpty = false := by
    cases its with
    | nil => exact absurd rfl hn
    | cons a b => rfl
  have hsz0 : its.toArray.size = xs.length := by rw [List.size_toArray, hle]
  have hm : ((its.toArray.size : Nat) : Int) * k ≤ 1000000 := by
    rw [hsz0]
    have a1 : ((xs.length : Nat) : Int) * k ≤ 1000 * k := Int.mul_le_mul_of_nonneg_right (by omega) (by omega)
    omega
  have flen : (List.replicate k.toNat its).flatten.length ≤ sizeLine := by
    rw [PyProof.Rows.lm_len_rep_flat, hle, sizeLine_eq]
    have a1 : k.toNat * xs.length ≤ 1000 * 1000 := Nat.mul_le_mul (by omega) hz
    omega
  have c0 : (decide (k < -(2 ^ 63)) || decide (k ≥ 2 ^ 63)) = false := by
    rw [decide_eq_false (by omega), decide_eq_false (by omega)] <;> rfl
  have c1 : (its.toArray.isEmpty || k == 1) = false := by
    rw [hi, Bool.false_or]
    exact beq_eq_false_iff_ne.mpr (by omega)
  have c2 : (decide (k ≤ 0) || its.toArray.isEmpty) = false := by
    rw [hi, Bool.or_false]
    exact decide_eq_false (by omega)
  have c4 : Builtin.Tuple.tupleTooMany (((its.toArray.size : Nat) : Int) * k) = false := by
    unfold Builtin.Tuple.tupleTooMany
    rw [sizeLine_eq]
    exact decide_eq_false (by omega)
  refine wpAny_binaryOp_repeat_ref (T := "tuple") (U := "int") (by decide) ⟨_, ho, rfl⟩ (fun s' => typeIs_int s' k t) noFill_tuple_mul F.fills_int_mul F.slot_int_rmul repeat_tuple F.slot_int_index.lookup
    (call_meets F.slot_int_rmul (typeIs_int s k t) F.entry_int_rmul (F.args_int_rmul_2 _ _) (int_rmul_tuple k t l its.toArray n dd sl)
      ⟨ho, rfl, ⟨_, ho, rfl⟩, call_meets F.slot_tuple_mul ⟨_, ho, rfl⟩ F.entry_tuple_mul (F.args_tuple_mul_2 _ _) (tuple_mulW l its.toArray n dd sl k t c0 c1 c2 (by omega) c4 (by rw [size_rep, List.size_toArray]; exact flen)) ⟨ho, ?_⟩⟩)
  rw [size_rep]
  have hz2 : (List.replicate k.toNat xs).flatten.length ≤ sizeLine := by
    rw [PyProof.Rows.lm_len_rep_flat, sizeLine_eq]; have a1 : k.toNat * xs.length ≤ 1000 * 1000 := Nat.mul_le_mul (by omega) hz; omega
  exact ⟨.ref s.heap.objs.size, _, laidF (t' := s.toks) I hz2 (r.rep k.toNat), rfl, q2 hk1 _ _ (I.hok.fresh (Nat.le_refl _)) rfl⟩
end
def gMulT : D → D → R D
  | .tuple xs, .int k => if !xs.isEmpty && decide (1 ≤ k) && decide (k ≤ 1000) && decide (xs.length ≤ 1000) then .ok (.tuple (List.replicate k.toNat xs).flatten) else .bad
  | d, e => gMul d e
theorem op_gMulT {X : Cx} : OpR X (binaryOp .Mult) (rD2 X.K gMulT) := by
  intro pins s σ H x y v u Q I rx ry h
  obtain ⟨Z, d, e, z, p1, p2, q⟩ := h
  by_cases hh : ∃ xs k, d = .tuple xs ∧ e = .int k
  · obtain ⟨xs, k, rfl, rfl⟩ := hh
    cases p1 with
    | tup h1 h2 =>
      cases p2
      simp only [gMulT] at q
      by_cases c : (!xs.isEmpty && decide (1 ≤ k) && decide (k ≤ 1000) && decide (xs.length ≤ 1000)) = true
      · rw [if_pos c] at q
        simp only [Bool.and_eq_true, decide_eq_true_eq] at c
        obtain ⟨⟨⟨c1, c2⟩, c3⟩, c4⟩ := c
        refine op_repF pins s σ H _ _ v u Q I rx ry ⟨_, k, _, rfl, rfl, SqT.same h1.sqT Same.uncut, fun z => ?_, c2, c3, by rw [h2.length]; exact c4, fun e => ?_, fun _ p o hp hd => ?_⟩
        · subst z
          cases h2
          simp at c1
        · subst e
          exact q _ _ (Same.refl H) (.tup h1 (by simpa using h2))
        · exact q _ _ (Same.new hp) (.tup (.inl ⟨o, cut_some.mpr ⟨z.fresh hp, upd_same⟩, hd⟩) ((h2.rep k.toNat).up (Same.cut (Same.new hp))))
      · rw [if_neg c] at q; exact q.elim
  · have e2 : gMulT d e = gMul d e := by
      cases d <;> cases e <;> first
        | rfl
        | exact absurd ⟨_, _, rfl, rfl⟩ hh
    rw [e2] at q
    exact op_gMul pins s σ H x y v u Q I rx ry ⟨Z, d, e, z, p1, p2, q⟩

/-! ### stores into owned lists -/
section
variable {X : Cx} {W : WX} {f : Env → R D} {pos : Pos}
def lsOf (ρ : Env) (i : Nat) : Option (List D) := match ρ.getD i .no with
  | .own (.lst ds) => some ds
  | _ => none
theorem lsOf_some {ρ : Env} {i : Nat} {ds : List D} (h : lsOf ρ i = some ds) : ρ[i]? = some (.own (.lst ds)) := by
  unfold lsOf at h
  split at h
  · next e he => cases h; exact getD_of (by simp) he
  · cases h
/-- x.append(e) -/
def sApp (m : Bool) (i : Nat) (f : Env → R D) : Env → O := fun ρ => match lsOf ρ i with
  | some ds => thenS (evm m f ρ) ρ fun d => if ds.length < sizeLine then .nx (ρ.set i (.own (.lst (ds ++ [d])))) else .bad
  | none => .bad
theorem fs_append (m : Bool) {i : Nat} {x : Str} {e : Expr} {p apos cpos : Pos} (he : FE X W e f) (hN : X.N[i]? = some x := by rfl) (hv : Vis X.env.scope x := by first | exact Or.inl rfl | exact Or.inr (Or.inl rfl) | exact Or.inr (Or.inr rfl))
    (hd : (x == ("__debug__" : Str)) = false := by decide) (hcd : (x == ("__classdict__" : Str)) = false := by decide)
    (hbase : attributeBase (.Name x p) "append" X.env (eval (.Name x p) X.env) = eval (.Name x p) X.env := by rfl)
    (hfew : ((backTo cpos (starEach [e] X.env)).all (fun x => !x.1) && (backToKw cpos (keywordEach [] X.env)).all (fun x => x.1.isSome)
      && decide ([e].length + ([] : List Keyword).length + (if ([] : List Keyword).isEmpty then 0 else 1) < 30)) = true := by rfl)
    (hline : (apos.endLine == cpos.line) = true := by rfl) (hs : starEach [e] X.env = (false, eval e X.env) :: starEach [] X.env := by rfl) (hplain : (backTo cpos (starEach [] X.env)).any (·.1) = false := by rfl)
    (hsw : swapsWith (.Call (.Attribute (.Name x p) "append" apos) [e] [] cpos) none pos.line X.env = pure false := by rfl) : FS X W (.Expr (.Call (.Attribute (.Name x p) "append" apos) [e] [] cpos) pos) (sApp m i f) :=
  ⟨PS.imp (ps_expr (pe_bm PySem.F.plainAttrs_list PySem.F.slot_list_append PySem.F.type_list_append mt_append (pe_var hN hv hd hcd) (pa_cons he.pe pa_nil hs) hbase hfew hline hs hplain) hsw) fun E σ H ⟨Zc, H0, ρ, so, q⟩ => by
    unfold sApp at q
    cases hl : lsOf ρ i with
    | none => rw [hl] at q; exact q.elim
    | some ds =>
      rw [hl] at q
      have hi := lsOf_some hl
      obtain ⟨a, h1, h2, xs, h3, h4⟩ := so.own i _ hi
      refine ⟨_, h1, .inl ⟨rfl, xs, SqL.of h3⟩, ev_then (m := m) so q fun d v H' r q s p => ?_⟩
      by_cases hz : ds.length < sizeLine
      · rw [if_pos hz] at q
        have h5 := h4.up (Same.cut s)
        exact ⟨a, xs, v, rfl, rfl, s _ _ h3, by rw [h4.length]; exact hz, q _ _ ((so.up s).write hi h1 (h5.append (.cons p .nil)))⟩
      · rw [if_neg hz] at q; exact q.elim⟩
/-- x.extend(e), e a list -/
def sExt (m : Bool) (i : Nat) (f : Env → R D) : Env → O := fun ρ => match lsOf ρ i with
  | some ds => thenS (evm m f ρ) ρ fun d => match d with
    | .list es => if ds.length + es.length ≤ sizeLine then .nx (ρ.set i (.own (.lst (ds ++ es)))) else .bad
    | _ => .bad
  | none => .bad
theorem fs_extend (m : Bool) {i : Nat} {x : Str} {e : Expr} {p apos cpos : Pos} (he : FE X W e f) (hN : X.N[i]? = some x := by rfl) (hv : Vis X.env.scope x := by first | exact Or.inl rfl | exact Or.inr (Or.inl rfl) | exact Or.inr (Or.inr rfl))
    (hd : (x == ("__debug__" : Str)) = false := by decide) (hcd : (x == ("__classdict__" : Str)) = false := by decide)
    (hbase : attributeBase (.Name x p) "extend" X.env (eval (.Name x p) X.env) = eval (.Name x p) X.env := by rfl)
    (hfew : ((backTo cpos (starEach [e] X.env)).all (fun x => !x.1) && (backToKw cpos (keywordEach [] X.env)).all (fun x => x.1.isSome)
      && decide ([e].length + ([] : List Keyword).length + (if ([] : List Keyword).isEmpty then 0 else 1) < 30)) = true := by rfl)
    (hline : (apos.endLine == cpos.line) = true := by rfl) (hs : starEach [e] X.env = (false, eval e X.env) :: starEach [] X.env := by rfl) (hplain : (backTo cpos (starEach [] X.env)).any (·.1) = false := by rfl)
    (hsw : swapsWith (.Call (.Attribute (.Name x p) "extend" apos) [e] [] cpos) none pos.line X.env = pure false := by rfl) : FS X W (.Expr (.Call (.Attribute (.Name x p) "extend" apos) [e] [] cpos) pos) (sExt m i f) :=
  ⟨PS.imp (ps_expr (pe_bm PySem.F.plainAttrs_list PySem.F.slot_list_extend PySem.F.type_list_extend mt_extend (pe_var hN hv hd hcd) (pa_cons he.pe pa_nil hs) hbase hfew hline hs hplain) hsw) fun E σ H ⟨Zc, H0, ρ, so, q⟩ => by
    unfold sExt at q
    cases hl : lsOf ρ i with
    | none => rw [hl] at q; exact q.elim
    | some ds =>
      rw [hl] at q
      have hi := lsOf_some hl
      obtain ⟨a, h1, h2, xs, h3, h4⟩ := so.own i _ hi
      refine ⟨_, h1, .inl ⟨rfl, xs, SqL.of h3⟩, ev_then (m := m) so q fun d v H' r q s p => ?_⟩
      cases p with
      | @lst b ys es k1 k2 =>
        simp only at q
        by_cases hz : ds.length + es.length ≤ sizeLine
        · rw [if_pos hz] at q
          have h5 := h4.up (Same.cut s)
          exact ⟨a, b, xs, ys, rfl, rfl, s _ _ h3, (cut_some.mp k1).2, by rw [h4.length, k2.length]; exact hz, q _ _ ((so.up s).write hi h1 (h5.append k2))⟩
        · rw [if_neg hz] at q; exact q.elim
      | _ => exact (show False from q).elim⟩
/-- x[k] = e -/
def sSetIx (m : Bool) (i : Nat) (f g : Env → R D) : Env → O := fun ρ => match lsOf ρ i with
  | some ds => thenS (evm m f ρ) ρ fun d => thenS (evm false g ρ) ρ fun k => match k with
    | .int k => match ixN ds.length k with
      | some j => .nx (ρ.set i (.own (.lst (ds.set j d))))
      | none => .bad
    | _ => .bad
  | none => .bad
theorem fs_setIx (m : Bool) {i : Nat} {x : Str} {e k : Expr} {g : Env → R D} {p tpos : Pos} (he : FE X W e f) (hk : FE X W k g) (hN : X.N[i]? = some x := by rfl) (hv : Vis X.env.scope x := by first | exact Or.inl rfl | exact Or.inr (Or.inl rfl) | exact Or.inr (Or.inr rfl))
    (hd : (x == ("__debug__" : Str)) = false := by decide) (hcd : (x == ("__classdict__" : Str)) = false := by decide)
    (ha : ∀ v, assign (.Subscript (.Name x p) k tpos) X.env v = (do
      let ov ← holding [v] (eval (.Name x p) X.env)
      let iv ← holding [v, ov] (eval k X.env)
      standAt tpos
      holding [v, ov, iv] (setItem ov iv v)
      release [v, ov, iv] []) := by intro _; rfl)
    (hs : swapsWithSole [.Subscript (.Name x p) k tpos] e pos.line X.env = pure false := by rfl) (hw : swappedStores [.Subscript (.Name x p) k tpos] e X.env = pure none := by rfl)
    (h1 : (assignEach [.Subscript (.Name x p) k tpos] X.env).map (·.2) = [assign (.Subscript (.Name x p) k tpos) X.env] := by rfl) : FS X W (.Assign [.Subscript (.Name x p) k tpos] e pos) (sSetIx m i f g) :=
  ⟨PS.imp (ps_asg he.pe (pg_sub (pe_var hN hv hd hcd) hk.pe set_list ha) hs hw h1) fun E σ H ⟨Zc, H0, ρ, so, q⟩ => by
    unfold sSetIx at q
    cases hl : lsOf ρ i with
    | none => rw [hl] at q; exact q.elim
    | some ds =>
      rw [hl] at q
      have hi := lsOf_some hl
      refine ev_then (m := m) so q fun d v H' r q s p => ?_
      have so1 := so.up s
      obtain ⟨a, h1, h2, xs, h3, h4⟩ := so1.own i _ hi
      refine ⟨_, h1, ev_then (m := false) so1 q fun kd kv H2 r2 q s2 p2 => ?_⟩
      cases p2 with
      | int j =>
        simp only at q
        cases hj : ixN ds.length j with
        | some n =>
          rw [hj] at q
          exact ⟨a, xs, j, n, rfl, rfl, s2 _ _ h3, by rw [h4.length]; exact hj, q _ _ ((so1.up s2).write hi h1 ((h4.up (Same.cut s2)).set n (p.up (Same.cut s2))))⟩
        | none => rw [hj] at q; exact q.elim
      | _ => exact (show False from q).elim⟩

/-! ### name op= e, ints -/
def ipG (g : Int → Int → Option Int) : TIp := fun x y H Q => ∃ i j k, x = .int i ∧ y = .int j ∧ g i j = some k ∧ Q (.int k) H
theorem ip_gMul : PIp X .Mult (ipG fun i j => if CMulW i j then some (i * j) else none) := by
  intro pins s σ H x y v u Q I r1 r2 h
  obtain ⟨i, j, k, e1, e2, hk, q⟩ := h
  subst e1; subst e2
  obtain ⟨t, rfl⟩ := r1
  obtain ⟨t', rfl⟩ := r2
  simp only at hk
  split at hk
  · next hc =>
    cases hk
    exact AutoIntOps.imul_0 (show Made.post _ _ _ from ⟨.int _, H, I.tok _, ⟨_, rfl⟩, q⟩) (CMulW.ok hc)
  · cases hk
theorem ip_gAdd : PIp X .Add (ipG fun i j => some (i + j)) := by
  intro pins s σ H x y v u Q I r1 r2 h
  obtain ⟨i, j, k, e1, e2, hk, q⟩ := h
  cases hk
  exact ip_add pins s σ H x y v u Q I r1 r2 ⟨i, j, e1, e2, q⟩
theorem ip_gSub : PIp X .Sub (ipG fun i j => some (i - j)) := by
  intro pins s σ H x y v u Q I r1 r2 h
  obtain ⟨i, j, k, e1, e2, hk, q⟩ := h
  cases hk
  exact ip_sub pins s σ H x y v u Q I r1 r2 ⟨i, j, e1, e2, q⟩
def sAug (i : Nat) (g : Int → Int → Option Int) (f : Env → R D) : Env → O := fun ρ => match ρ.getD i .no with
  | .val (.int a) => thenS (evm false f ρ) ρ fun d => match d with
    | .int b => match g a b with
      | some k => .nx (ρ.set i (.val (.int k)))
      | none => .bad
    | _ => .bad
  | _ => .bad
theorem fs_aug {i : Nat} {x : Str} {e : Expr} {op : Operator} {g : Int → Int → Option Int} {pos' : Pos} (hN : X.N.Nodup) (ho : PIp X op (ipG g)) (he : FE X W e f) (hi : X.N[i]? = some x := by rfl) (hx : Loc X.env.scope x := by exact Or.inl rfl) (hf : X.fn x = true ∨ X.env.scope.names.lookup x = some .local := by first | exact .inl rfl | exact .inr rfl | assumption) :
    FS X W (.AugAssign (.Name x pos') op e pos) (sAug i g f) :=
  ⟨PS.imp (ps_aug hN hi hx he.pe ho hf) fun E σ H ⟨Zc, H0, ρ, so, q⟩ => by
    unfold sAug at q
    cases hr : ρ.getD i .no with
    | val d =>
      cases d with
      | int a =>
        rw [hr] at q
        simp only at q
        obtain ⟨v, h1, h2⟩ := so.e.val i _ (getD_of (by simp) hr)
        cases h2
        refine ⟨_, h1, ev_then (m := false) so q fun d v H' r q s p => ?_⟩
        cases p with
        | int b =>
          simp only at q
          cases hg : g a b with
          | some k =>
            rw [hg] at q
            exact ⟨a, b, k, rfl, rfl, hg, q _ _ ((so.up s).put (.int k))⟩
          | none => rw [hg] at q; exact q.elim
        | _ => exact (show False from q).elim
      | _ => rw [hr] at q; exact (show False from q).elim
    | _ => rw [hr] at q; exact (show False from q).elim⟩

/-! ### try -/
structure HdF where
  yes : List Str
  no : List Str
  suite : Env → O
def noEx : O → O
  | .ex _ _ => .bad
  | o => o
def hdGo : List HdF → Str → Env → O
  | [], c, ρ => .ex c ρ
  | h :: hs, c, ρ => if h.yes.contains c then noEx (h.suite ρ) else if h.no.contains c then hdGo hs c ρ else .bad
@[simp] def sTry (f : Env → O) (hs : List HdF) : Env → O := fun ρ => match f ρ with
  | .ex c ρ' => hdGo hs c ρ'
  | o => o
inductive HsOk (X : Cx) : List ExceptHandler → List HdF → List (Value × (Addr → Value → Option Addr → TS)) → Prop
  | nil : HsOk X [] [] []
  | cons {x : Str} {c : Value} {yes no : List Str} {g : Env → O} {b₀ : Stmt} {suite : List Stmt} {np pos' : Pos} {hds : List ExceptHandler} {l : List HdF} {l' : List (Value × (Addr → Value → Option Addr → TS))} (hc : Names X x c)
      (hy : ∀ y ∈ yes, ∀ C, X.mg y = some (.ref C) → PySem.W.exmOne X.K (.ref C) c = some true) (hn : ∀ y ∈ no, ∀ C, X.mg y = some (.ref C) → PySem.W.exmOne X.K (.ref C) c = some false)
      (hsu : ∀ (a : Addr) (pn : List (Addr × Obj)), FSs (X.suite a pn) W0 (b₀ :: suite) g) (r : HsOk X hds l l') :
      HsOk X (.ExceptHandler (some (.Name x np)) none (b₀ :: suite) pos' :: hds) (⟨yes, no, g⟩ :: l) ((c, fun _ _ _ => tS X.K X.mg W0 g) :: l')
theorem HsOk.hds {hds : List ExceptHandler} {l : List HdF} {l' : List (Value × (Addr → Value → Option Addr → TS))} (h : HsOk X hds l l') : HdsOk X hds l' := by
  induction h with
  | nil => exact .nil
  | cons hc hy hn hsu r ih => exact .cons hc (fun a oe cls d pn _ _ => (hsu a _).pss) ih
theorem HsOk.wants {hds : List ExceptHandler} {l : List HdF} {l' : List (Value × (Addr → Value → Option Addr → TS))} (h : HsOk X hds l l') {Zc : Addr → Prop} {H0 : Hp} {E : Ends} {c : Str} {ρ : Env} (q : PoS X.K X.mg W Zc H0 E (hdGo l c ρ)) :
    ∀ σ H C, SOk X.K Zc H0 H σ ρ → X.mg c = some (.ref C) → wMany X.K W E l' (.ref C) none σ H := by
  induction h with
  | nil => exact fun σ H C so m => q σ H C so m
  | @cons x cv yes no g b₀ suite np pos' hds l l' hc hy hn hsu r ih =>
    intro σ H C so m
    unfold hdGo at q
    by_cases h1 : yes.contains c = true
    · rw [if_pos h1] at q
      refine ⟨true, hy c (by simpa using h1) C m, fun _ a _ => ⟨Zc, H0, ρ, so, ?_⟩, fun e => Bool.noConfusion e⟩
      have q : PoS X.K X.mg W Zc H0 E (noEx (g ρ)) := q
      cases e : g ρ with
      | ex c' ρ' => rw [e] at q; exact q.elim
      | _ => rw [e] at q; exact q
    · rw [if_neg h1] at q
      by_cases h2 : no.contains c = true
      · rw [if_pos h2] at q
        exact ⟨false, hn c (by simpa using h2) C m, fun e => Bool.noConfusion e, fun _ => ih q σ H C so m⟩
      · rw [if_neg h2] at q; exact q.elim
theorem fs_try {body : List Stmt} {h₀ : ExceptHandler} {hds : List ExceptHandler} {l : List HdF} {l' : List (Value × (Addr → Value → Option Addr → TS))} {fb : Env → O} (hs : X.stack = X.env :: X.outer) (hf : X.env.frame = some X.env.locals) (tk : Takes X W)
    (hb : ∀ (W : WX) (pn : List (Addr × Obj)) (xe : Value → Shared → Prop), Takes (X.tr pn xe) W → PassesOwn (model X.prog X.w) X.A X.env xe → FSs (X.tr pn xe) W body fb) (hh : HsOk X (h₀ :: hds) l l') :
    FS X W (.Try body (h₀ :: hds) [] [] pos) (sTry fb l) :=
  ⟨PS.imp (ps_try_many (tb := fun W => tS X.K X.mg W fb) hs hf tk (fun W pn xe t p => (hb W pn xe t p).pss) hh.hds) fun E σ H ⟨Zc, H0, ρ, so, q⟩ => ⟨Zc, H0, ρ, so, by
    unfold sTry at q
    cases e : fb ρ with
    | ex c ρ' => rw [e] at q; exact hh.wants q
    | _ => rw [e] at q; exact q⟩⟩
end

/-! ### defs -/
def startE (n : Nat) (ds : List D) : Env := ds.map Sl.val ++ List.replicate (n - ds.length) Sl.no
def resF : O → R D
  | .nx _ => .ok .none
  | .rt d => .ok d
  | .ex c _ => .exc c
  | _ => .bad
def bodyF (n : Nat) (f : Env → O) (ds : List D) : R D := resF (f (startE n ds))
theorem startE_get {n i : Nat} {ds : List D} {s : Sl} (h : (startE n ds)[i]? = some s) (hs : s ≠ .no) : ∃ d, ds[i]? = some d ∧ s = .val d := by
  unfold startE at h
  rw [List.getElem?_append] at h
  split at h
  · next hl =>
    rw [List.getElem?_map] at h
    cases e : ds[i]? with
    | none => rw [e] at h; cases h
    | some d => rw [e] at h; cases h; exact ⟨d, rfl, rfl⟩
  · rw [List.getElem?_replicate] at h
    split at h
    · cases h; exact absurd rfl hs
    · cases h
theorem start_ok {K : PySem.W.Frag} {Z : Addr → Prop} {H : Hp} {N : List Str} {vs : List V} {ds : List D} (z : ZD Z H) (r : RpA K (cut Z H) vs ds) : SOk K Z H H (start N vs) (startE N.length ds) := by
  have noown : ∀ (i : Nat) (o : Own), (startE N.length ds)[i]? ≠ some (.own o) := fun i o h => by
    obtain ⟨d, _, e⟩ := startE_get h (by simp)
    cases e
  have sub : ∀ a, ZA Z (start N vs) (startE N.length ds) a → Z a := fun a h => by
    rcases h with h | ⟨i, o, h, _⟩
    · exact h
    · exact absurd h (noown i o)
  refine ⟨Same.refl H, z, ⟨?_, fun a h => z a (sub a h), fun i d h => ?_, fun i ns h => ?_, fun i o h => absurd h (noown i o)⟩, fun i o h => absurd h (noown i o), fun i j o o' a h => absurd h (noown i o)⟩
  · have := r.length
    simp [L2.start, startE, this]
  · obtain ⟨d', e, e2⟩ := startE_get h (by simp)
    cases e2
    obtain ⟨v, hv, p⟩ := r.get e
    refine ⟨v, ?_, p.up (Same.cutLe sub)⟩
    have hl : i < vs.length := (List.getElem?_eq_some_iff.mp hv).1
    unfold L2.start
    rw [List.getElem?_append_left (by simpa using hl), List.getElem?_map, hv]
    rfl
  · obtain ⟨d', e, e2⟩ := startE_get h (by simp)
    cases e2
section
variable {P : Program} {w : World} {K : PySem.W.Frag} {mg : Str → Option Value} {base : Heap}
theorem fn_okD {x qual : Str} {st : Stmt} {f : Addr} {fd : FuncData} {N ps : List Str} {k : Nat} {g : Env → O} (F : Fun K x qual st f fd) (S : FnScope N ps (defScope st))
    (hbody : ∀ (cdv : Value) (A : Around) (outer : List PySem.Env) (s : Shared) (H : Hp) (E : XK), Room k (A.deeper (envOfC qual (defScope st) s.heap.objs.size f cdv)) →
      Takes (cxOf (L2.CX P w) P w K mg base N qual (defScope st) f cdv A outer s H E) (fun cls d _ H => E cls d H) →
      PassesOwn (model P w) (cxOf (L2.CX P w) P w K mg base N qual (defScope st) f cdv A outer s H E).A (cxOf (L2.CX P w) P w K mg base N qual (defScope st) f cdv A outer s H E).env (cxOf (L2.CX P w) P w K mg base N qual (defScope st) f cdv A outer s H E).xe →
      FSs (cxOf (L2.CX P w) P w K mg base N qual (defScope st) f cdv A outer s H E) (fun cls d _ H => E cls d H) (defBody st) g) :
    FnOk P w K mg base (L2.CX P w) (k + 1) f fd ps (spD K mg ps.length (bodyF N.length g)) := by
  refine F.okX S (fun vs H Q E h => h.1) fun cdv A outer s H vs Q E hr hsp => ⟨_, (hbody cdv A outer s H E hr (takes_of rfl rfl rfl rfl) (passes_of rfl)).pss, ?_⟩
  obtain ⟨hl, Z, ds, z, r, q⟩ := hsp
  refine ⟨Z, H, _, start_ok z r, ?_⟩
  unfold bodyF at q
  show PoS K mg _ Z H _ (g (startE N.length ds))
  cases e : g (startE N.length ds) with
  | nx ρ => rw [e] at q; exact fun σ H' so => q .non H' so.same .non
  | rt d => rw [e] at q; exact fun v H' s p => q v H' s p
  | ex c ρ => rw [e] at q; exact fun σ H' C so m => q H' C so.same m
  | bk ρ => rw [e] at q; exact q.elim
  | ct ρ => rw [e] at q; exact q.elim
  | bad => rw [e] at q; exact q.elim
/-- nothing is told of it -/
theorem fn_bad {f : Addr} {fd : FuncData} {ps : List Str} {k : Nat} : FnOk P w K mg base (L2.CX P w) k f fd ps (spD K mg ps.length fun _ => .bad) :=
  ⟨fun vs H Q E h => h.1, fun A outer s H args us vs Q E _ _ _ _ h => by
    obtain ⟨_, _, _, _, _, q⟩ := h
    exact q.elim⟩
end
theorem units80 {k : Nat} {A : Around} (r : Room k A) : A.units + 80 < cLine := by have := r.un; omega
end PL

set_option Elab.async false
set_option linter.all false
set_option autoImplicit false
set_option maxRecDepth 100000
/-! PL13: chained comparisons; pairs stored side by side; enumerate, zip -/
namespace PL
open PySem PySem.Spec PyProof.Rows L2
section
variable {X : Cx} {W : WX} {pos : Pos}
theorem fe_chain {op op' : CmpOp} {a b c : Expr} {g g' : D → D → R D} {f h k : Env → R D} (ho : OpR X (compareOp op) (rD2 X.K g)) (ho' : OpR X (compareOp op') (rD2 X.K g')) (ha : FE X W a f) (hb : FE X W b h) (hc : FE X W c k)
    (hm : lastMarks [op, op'] [b, c] = false := by with_unfolding_all rfl) : FE X W (.Compare a [op, op'] [b, c] pos) (sChain g g' f h k) := ⟨PE.imp (pe_chain ho ho' ha.pe hb.pe hc.pe hm) fun _ _ _ q => chain_reads q⟩
theorem ft_chain {op op' : CmpOp} {a b c : Expr} {g g' : D → D → R D} {f h k : Env → R D} (ho : OpR X (compareOp op) (rD2 X.K g)) (ho' : OpR X (compareOp op') (rD2 X.K g')) (ha : FE X W a f) (hb : FE X W b h) (hc : FE X W c k)
    (hm : lastMarks [op, op'] [b, c] = false := by with_unfolding_all rfl) : FT X W (.Compare a [op, op'] [b, c] pos) (sB (sChain g g' f h k)) := ⟨PT.imp (pt_chain ho ho' ha.pe hb.pe hc.pe hm) fun _ _ _ q => chain_reads (bool_reads q)⟩

/-! ### a, b = x, y -/
@[simp] def evmL (m : Bool) (f : Env → R (List D)) (ρ : Env) : R (List D) := match m with
  | true => f ρ
  | false => match f (rdE ρ) with
    | .ok ds => if ds.all scal = true then .ok ds else .bad
    | .exc c => .exc c
    | .bad => .bad
@[simp] def thenL (r : R (List D)) (ρ : Env) (k : List D → O) : O := match r with
  | .ok d => k d
  | .exc c => .ex c ρ
  | .bad => .bad
theorem RpA.scal {K : PySem.W.Frag} {H H' : Hp} : ∀ {vs : List V} {ds : List D}, RpA K H vs ds → ds.all PL.scal = true → RpA K H' vs ds
  | _, [], h, _ => by cases h; exact .nil
  | _, d :: ds, h, s => by
    rw [List.all_cons, Bool.and_eq_true] at s
    cases h with
    | cons h1 h2 => exact .cons (h1.scal s.1) (RpA.scal h2 s.2)
theorem evL_then {K : PySem.W.Frag} {mg : Str → Option Value} {Zc : Addr → Prop} {H0 H : Hp} {σ : L2.St} {ρ : Env} {E : Ends} {f : Env → R (List D)} {m : Bool} {k : List D → O} {Q : List V → Hp → Prop} (so : SOk K Zc H0 H σ ρ) (q : PoS K mg W Zc H0 E (thenL (evmL m f ρ) ρ k))
    (go : ∀ d v H', PoS K mg W Zc H0 E (k d) → Same H H' → RpA K (cut (ZA Zc σ ρ) H') v d → Q v H') : tA K mg W f σ H Q := by
  cases m with
  | true =>
    refine ⟨_, ρ, so.e, ?_⟩
    simp only [evmL] at q
    cases r : f ρ with
    | ok d => rw [r] at q; exact fun v H' s p => go d v H' q s p
    | exc c => rw [r] at q; exact PoS.exc q so
    | bad => rw [r] at q; exact q.elim
  | false =>
    refine ⟨Zc, rdE ρ, so.rd, ?_⟩
    simp only [evmL] at q
    cases r : f (rdE ρ) with
    | ok d =>
      simp only [r] at q
      by_cases hs : d.all scal = true
      · rw [if_pos hs] at q; exact fun v H' s p => go d v H' q s (p.scal hs)
      · rw [if_neg hs] at q; exact q.elim
    | exc c => simp only [r] at q; exact PoS.exc q so
    | bad => simp only [r] at q; exact q.elim
def sPar (m : Bool) (is : List Nat) (f : Env → R (List D)) : Env → O := fun ρ => thenL (evmL m f ρ) ρ fun ds => match is, ds with
  | [i, j], [d, e] => .nx ((ρ.set i (.val d)).set j (.val e))
  | [i, j, k], [d, e, g] => .nx (((ρ.set i (.val d)).set j (.val e)).set k (.val g))
  | _, _ => .bad
theorem SOk.put2 {K : PySem.W.Frag} {Zc : Addr → Prop} {H0 H : Hp} {σ : L2.St} {ρ : Env} {i : Nat} {v : V} {d : D} {Z : Addr → Prop} (so : SOk K Zc H0 H σ ρ) (hz : ∀ a, ZA Zc σ ρ a → Z a) (r : Rp K (cut Z H) v d) :
    SOk K Zc H0 H (σ.set i (some v)) (ρ.set i (.val d)) ∧ ∀ a, ZA Zc (σ.set i (some v)) (ρ.set i (.val d)) a → Z a :=
  ⟨so.put (r.up (Same.cutLe hz)), fun a h => hz a (by
    rcases h with h | ⟨j, o, h1, h2⟩
    · exact .inl h
    · obtain ⟨k1, k2⟩ := set_own (x := .val d) (fun _ e => by cases e) h1
      rw [List.getElem?_set_ne k2] at h2
      exact .inr ⟨j, o, k1, h2⟩)⟩
theorem fs_par (m : Bool) {i j : Nat} {x y : Str} {a b : Expr} {f : Env → R (List D)} {px py pt : Pos} {kt k2 pt2} (hc : X.calm = true) (hN : X.N.Nodup) (ha : FA X W [a, b] f) (hij : i ≠ j) (hi : X.N[i]? = some x := by rfl) (hj : X.N[j]? = some y := by rfl)
    (hx : X.env.scope.names.lookup x = some .local := by rfl) (hy : X.env.scope.names.lookup y = some .local := by rfl)
    (hw : swappedStores [.Tuple [.Name x px, .Name y py] kt pt] (.Tuple [a, b] k2 pt2) X.env = pure (some [x, y]) := by rfl)
    (hs : swapsWithSole [.Tuple [.Name x px, .Name y py] kt pt] (.Tuple [a, b] k2 pt2) pos.line X.env = pure false := by rfl) :
    FS X W (.Assign [.Tuple [.Name x px, .Name y py] kt pt] (.Tuple [a, b] k2 pt2) pos) (sPar m [i, j] f) :=
  ⟨PS.imp (ps_par hc hN hi hj hij hx hy ha.pa hw hs) fun E σ H ⟨Zc, H0, ρ, so, q⟩ => evL_then so q fun ds vs H' q s p => by
    match ds, p, q with
    | [], _, q => exact (show False from q).elim
    | [_], _, q => exact (show False from q).elim
    | _ :: _ :: _ :: _, _, q => exact (show False from q).elim
    | [d, e], .cons p1 (.cons p2 .nil), q =>
      obtain ⟨s1, z1⟩ := (so.up s).put2 (i := i) (fun _ h => h) p1
      obtain ⟨s2, _⟩ := s1.put2 (i := j) z1 p2
      exact ⟨_, _, rfl, q _ _ s2⟩⟩
def tPar3 (i j k : Nat) (ta : TA) : TS := fun D σ H => ta σ H fun vs H1 => ∃ v w u, vs = [v, w, u] ∧ D.nx (((σ.set i (some v)).set j (some w)).set k (some u)) H1
theorem ps_par3 {i j k : Nat} {x y z : Str} {a b c : Expr} {ta : TA} {px py pz pt : Pos} {kt k2 pt2} (hc : X.calm = true) (hN : X.N.Nodup) (hi : X.N[i]? = some x) (hj : X.N[j]? = some y) (hk : X.N[k]? = some z) (hij : i ≠ j) (hik : i ≠ k) (hjk : j ≠ k)
    (hx : X.env.scope.names.lookup x = some .local) (hy : X.env.scope.names.lookup y = some .local) (hz : X.env.scope.names.lookup z = some .local) (ha : PA X [a, b, c] ta)
    (hw : swappedStores [.Tuple [.Name x px, .Name y py, .Name z pz] kt pt] (.Tuple [a, b, c] k2 pt2) X.env = pure (some [x, y, z]))
    (hs : swapsWithSole [.Tuple [.Name x px, .Name y py, .Name z pz] kt pt] (.Tuple [a, b, c] k2 pt2) pos.line X.env = pure false) :
    PS X (.Assign [.Tuple [.Name x px, .Name y py, .Name z pz] kt pt] (.Tuple [a, b, c] k2 pt2) pos) (tPar3 i j k ta) := by
  refine ⟨fun pins s σ H D I h => ?_⟩
  rw [exec_Assign_arm]
  refine wpAny_bind (wpAny_standAt ?_)
  rw [hs]
  refine wpAny_bind (wpAny_pure ?_)
  rw [if_neg (by decide)]
  refine wpAny_bind (Tuple_ (thn (ha.run _ pins s σ H _ I h) fun us s1 ⟨vs, H1, I1, r1, q1⟩ => ?_))
  obtain ⟨v, w, u, e1, q1⟩ := q1
  subst e1
  obtain ⟨u1, u2, u3, rfl, rv, rw', ru⟩ : ∃ u1 u2 u3, us = [u1, u2, u3] ∧ RelV v u1 ∧ RelV w u2 ∧ RelV u u3 := by
    cases r1 with
    | cons p q =>
      cases q with
      | cons p' q' =>
        cases q' with
        | cons p'' q'' =>
          cases q''
          exact ⟨_, _, _, rfl, p, p', p''⟩
  refine wpAny_newObj_type ?_ (by show 3 ≤ sizeLine; decide)
  have I2 : Inv X pins σ H1 { s1 with heap := s1.heap.push { cls := .type "tuple", data := .seq [u1, u2, u3].toArray } } := I1.kept (t' := s1.toks) fun b o e => Heap.get?_push_of_some _ e
  rw [hw]
  refine wpAny_bind (wpAny_pure ?_)
  show wpAny (model X.prog X.w) X.A (do rule "assign.swapped-stores"; let items ← unpackItems (.ref s1.heap.objs.size) 3 none; assignInOrder [fun v => bindName X.env z v, fun v => bindName X.env y v, fun v => bindName X.env x v] items.reverse; pure Flow.next) _ _ _
  refine wpAny_bind (wpAny_rule (wpAny_bind (unpackItems_tuple (items := #[u1, u2, u3]) (I.ok.hd hc) (IsTup.new s1.heap _) fun h' hx' => ?_)))
  have I3 := I2.kept (h' := h') (t' := s1.toks) fun b o e => hx' b o (Nat.ne_of_lt (Heap.lt_size e)) e
  show wpAny _ _ (assignInOrder [fun v => bindName X.env z v, fun v => bindName X.env y v, fun v => bindName X.env x v] [u3, u2, u1] >>= fun _ => pure Flow.next) _ _ _
  refine wpAny_bind (assignInOrder_cons (wpAny_bindName (store_ok I3 hN hk (.inl hz) ru (fun s2 I4 => ?_) (.inr hz))))
  refine assignInOrder_cons (wpAny_bindName (store_ok I4 hN hj (.inl hy) rw' (fun s3 I5 => ?_) (.inr hy)))
  refine assignInOrder_cons (wpAny_bindName (store_ok I5 hN hi (.inl hx) rv (fun s4 I6 => assignInOrder_nil (wpAny_pure ?_)) (.inr hx)))
  have e : ((σ.set k (some u)).set j (some w)).set i (some v) = ((σ.set i (some v)).set j (some w)).set k (some u) := by
    rw [List.set_comm _ _ (Ne.symm hjk), List.set_comm _ _ (Ne.symm hik), List.set_comm _ _ (Ne.symm hij)]
  rw [e] at I6
  exact ⟨_, H1, I6, q1⟩
theorem fs_par3 (m : Bool) {i j k : Nat} {x y z : Str} {a b c : Expr} {f : Env → R (List D)} {px py pz pt : Pos} {kt k2 pt2} (hc : X.calm = true) (hN : X.N.Nodup) (ha : FA X W [a, b, c] f) (hij : i ≠ j) (hik : i ≠ k) (hjk : j ≠ k) (hi : X.N[i]? = some x := by rfl) (hj : X.N[j]? = some y := by rfl) (hk : X.N[k]? = some z := by rfl)
    (hx : X.env.scope.names.lookup x = some .local := by rfl) (hy : X.env.scope.names.lookup y = some .local := by rfl) (hz : X.env.scope.names.lookup z = some .local := by rfl)
    (hw : swappedStores [.Tuple [.Name x px, .Name y py, .Name z pz] kt pt] (.Tuple [a, b, c] k2 pt2) X.env = pure (some [x, y, z]) := by rfl)
    (hs : swapsWithSole [.Tuple [.Name x px, .Name y py, .Name z pz] kt pt] (.Tuple [a, b, c] k2 pt2) pos.line X.env = pure false := by rfl) :
    FS X W (.Assign [.Tuple [.Name x px, .Name y py, .Name z pz] kt pt] (.Tuple [a, b, c] k2 pt2) pos) (sPar m [i, j, k] f) :=
  ⟨PS.imp (ps_par3 hc hN hi hj hk hij hik hjk hx hy hz ha.pa hw hs) fun E σ H ⟨Zc, H0, ρ, so, q⟩ => evL_then so q fun ds vs H' q s p => by
    match ds, p, q with
    | [], _, q => exact (show False from q).elim
    | [_], _, q => exact (show False from q).elim
    | [_, _], _, q => exact (show False from q).elim
    | _ :: _ :: _ :: _ :: _, _, q => exact (show False from q).elim
    | [d, e, g], .cons p1 (.cons p2 (.cons p3 .nil)), q =>
      obtain ⟨s1, z1⟩ := (so.up s).put2 (i := i) (fun _ h => h) p1
      obtain ⟨s2, z2⟩ := s1.put2 (i := j) z1 p2
      obtain ⟨s3, _⟩ := s2.put2 (i := k) z2 p3
      exact ⟨_, _, _, rfl, q _ _ s3⟩⟩
end

/-! ### pairs -/
section
variable {K : PySem.W.Frag} {Z : Addr → Prop} {H : Hp}
theorem pair_items {as bs : Nat → Option V} {xs ys : List D} {i : Nat} {H1 H2 : Hp} {x : V} (h : YPair as bs i H1 x H2) (hx : ∀ v, as i = some v → ∃ d, xs[i]? = some d ∧ Rp K (cut Z H) v d) (hy : ∀ v, bs i = some v → ∃ d, ys[i]? = some d ∧ Rp K (cut Z H) v d) :
    YI K false Z H ((xs.zip ys).map fun p => .tuple [p.1, p.2]) i H1 x H2 := by
  obtain ⟨T, a, b, rfl, hT, rfl, ha, hb⟩ := h
  obtain ⟨d, hd, pd⟩ := hx a ha
  obtain ⟨e, he, pe⟩ := hy b hb
  refine ⟨.tuple [d, e], ?_, Same.new hT, fun Z' z s => ?_⟩
  · have z2 : (xs.zip ys)[i]? = some (d, e) := List.getElem?_zip_eq_some.mpr ⟨hd, he⟩
    rw [List.getElem?_map, z2]
    rfl
  · have s2 : Same (cut Z H) (cut Z' (upd H1 T (.tup [a, b]))) := s.trans (Same.cut (Same.new hT))
    exact .pair (cut_some.mpr ⟨z.fresh hT, upd_same⟩) (pd.up s2) (pe.up s2)
end
def enumD : List D → R (List D)
  | [.list xs] => .ok (((intsD 0 xs.length).zip xs).map fun p => .tuple [p.1, p.2])
  | _ => .bad
def zipD : List D → R (List D)
  | [.list xs, .list ys] => .ok ((xs.zip ys).map fun p => .tuple [p.1, p.2])
  | [.tuple xs, .tuple ys] => .ok ((xs.zip ys).map fun p => .tuple [p.1, p.2])
  | _ => .bad
theorem walk_zipT {K : PySem.W.Frag} {a b : Addr} {xs ys : List V} {n : Nat} (hn : n = min xs.length ys.length) : Walk (RZ.ItzT K a b) n (fun H => SqT K H a xs ∧ SqT K H b ys) (fun i H v H' => ∃ T x z, v = .ref T ∧ H T = none ∧ H' = upd H T (.tup [x, z]) ∧ xs[i]? = some x ∧ ys[i]? = some z) := by
  subst hn
  refine ⟨fun i _ hi q => ?_, fun _ q => ⟨xs, ys, q.1, q.2, by omega⟩, fun i H v H' _ q y => ?_⟩
  · have h1 : i < xs.length := by omega
    have h2 : i < ys.length := by omega
    exact ⟨xs, ys, xs[i], ys[i], q.1, q.2, by simp [h1], by simp [h2]⟩
  · obtain ⟨T, x, z, h1, h2, h3, h4, h5⟩ := y
    exact ⟨T, x, z, h1, h2, h3, h4 xs q.1, h5 ys q.2⟩
section
variable {X : Cx} {W : WX}
theorem fi_enum {e : Expr} {g : Env → R (List D)} {p pos tpos : Pos} {elts : List Expr} {kk : Nat} (hg : Gl X "enumerate") (hm : X.mg "enumerate" = none) (ha : FA X W [e] g) (hs : starEach [e] X.env = [(false, eval e X.env)] := by rfl) :
    FI X W (.Tuple elts kk tpos) (.Call (.Name "enumerate" p) [e] [] pos) false (sRg enumD g) :=
  ⟨PI.imp (pi_enum hg hm ha.pa hs) fun σ H Q ⟨Z, ρ, eo, q⟩ => by
    refine ⟨Z, ρ, eo, ?_⟩
    rcases q.ofBind with ⟨d, r, q⟩ | ⟨c, r, q⟩
    · rw [r]
      intro vs H1 s1 p
      unfold enumD at q
      split at q
      · cases p with
        | cons p1 p2 =>
          cases p2
          cases p1 with
          | @lst a xs ds h1 h2 =>
            refine ⟨_, _, rfl, SqL.of (cut_some.mp h1).2, q _ _ s1 ?_⟩
            have hl := h2.length
            rw [List.length_map, List.length_zip, intsD_length, Nat.min_self, ← hl]
            refine walk_enum.mono (fun H2 g => SqL.of (g _ _ h1)) fun i H2 x H3 hi _ y => pair_items y (fun v hv => ?_) fun v hv => h2.getV hv
            cases hv
            exact ⟨.int (i : Nat), by rw [intsD_get hi]; simp, .int _⟩
      · exact q.elim
    · rw [r]; exact q⟩
theorem fi_zip {e e2 : Expr} {g : Env → R (List D)} {p pos tpos : Pos} {elts : List Expr} {kk : Nat} (hg : Gl X "zip") (hm : X.mg "zip" = none) (ha : FA X W [e, e2] g)
    (hs : starEach [e, e2] X.env = (false, eval e X.env) :: starEach [e2] X.env := by rfl) (hpl : (backTo pos (starEach [e2] X.env)).any (·.1) = false := by rfl) :
    FI X W (.Tuple elts kk tpos) (.Call (.Name "zip" p) [e, e2] [] pos) false (sRg zipD g) :=
  ⟨PI.imp (RZ.pi_zipA hg hm ha.pa hs hpl) fun σ H Q ⟨Z, ρ, eo, q⟩ => by
    refine ⟨Z, ρ, eo, ?_⟩
    rcases q.ofBind with ⟨d, r, q⟩ | ⟨c, r, q⟩
    · rw [r]
      intro vs H1 s1 p
      unfold zipD at q
      split at q
      · cases p with
        | cons p1 p2 =>
          cases p2 with
          | cons p2 p3 =>
            cases p3
            cases p1 with
            | lst h1 h2 =>
              cases p2 with
              | lst k1 k2 =>
                refine ⟨_, _, _, _, rfl, .inl ⟨SqL.of (cut_some.mp h1).2, SqL.of (cut_some.mp k1).2, q _ _ s1 ?_⟩⟩
                rw [List.length_map, List.length_zip, ← h2.length, ← k2.length]
                exact (walk_zip rfl).mono (fun H2 g => ⟨SqL.of (g _ _ h1), SqL.of (g _ _ k1)⟩) fun i H2 x H3 hi _ y => pair_items y (fun v hv => h2.getV hv) fun v hv => k2.getV hv
      · cases p with
        | cons p1 p2 =>
          cases p2 with
          | cons p2 p3 =>
            cases p3
            cases p1 with
            | tup h1 h2 =>
              cases p2 with
              | tup k1 k2 =>
                refine ⟨_, _, _, _, rfl, .inr ⟨SqT.same h1.sqT Same.uncut, SqT.same k1.sqT Same.uncut, q _ _ s1 ?_⟩⟩
                rw [List.length_map, List.length_zip, ← h2.length, ← k2.length]
                refine (walk_zipT rfl).mono (fun H2 g => ⟨SqT.same h1.sqT g, SqT.same k1.sqT g⟩) fun i H2 x H3 hi _ y => pair_items (as := fun i => _) (bs := fun i => _) (show YPair (fun i => _) (fun i => _) i H2 x H3 from y) (fun v hv => h2.getV hv) fun v hv => k2.getV hv
      · exact q.elim
    · rw [r]; exact q⟩
end
end PL

set_option Elab.async false
set_option linter.all false
set_option autoImplicit false
set_option maxRecDepth 100000
/-! PL14: defs that take the script; a law's end -/
namespace PL
open PySem PySem.Spec PyProof.Rows L2
def startR (n : Nat) (ns : List Int) (ds : List D) : Env := Sl.raw ns :: startE (n - 1) ds
def bodyR (n : Nat) (f : Env → O) (ns : List Int) (ds : List D) : R D := resF (f (startR n ns ds))
def spR (K : PySem.W.Frag) (mg : Str → Option Value) (n : Nat) (F : List Int → List D → R D) : Sp := fun vs H Q E => vs.length = n ∧ ∃ Z a ns vs' ds, vs = .ref a :: vs' ∧ ZD Z H ∧ SqL K (cut Z H) a (ns.map V.int) ∧ RpA K (cut Z H) vs' ds ∧ match F ns ds with
  | .ok d => ∀ v H', Same H H' → Rp K (cut Z H') v d → Q v H'
  | .exc c => ∀ H' C, Same H H' → mg c = some (.ref C) → E (.ref C) none H'
  | .bad => False
theorem start_okR {K : PySem.W.Frag} {Z : Addr → Prop} {H : Hp} {x : Str} {N : List Str} {vs : List V} {ds : List D} {a : Addr} {ns : List Int} (z : ZD Z H) (hs : SqL K (cut Z H) a (ns.map V.int)) (r : RpA K (cut Z H) vs ds) :
    SOk K Z H H (L2.start (x :: N) (.ref a :: vs)) (startR (x :: N).length ns ds) := by
  have so := start_ok (N := N) z r
  have e1 : L2.start (x :: N) (.ref a :: vs) = some (.ref a) :: L2.start N vs := by simp [L2.start]
  have e2 : startR (x :: N).length ns ds = .raw ns :: startE N.length ds := by simp [startR]
  rw [e1, e2]
  have noown : ∀ (i : Nat) (o : Own), (Sl.raw ns :: startE N.length ds)[i]? ≠ some (.own o) := fun i o h => by
    cases i with
    | zero => cases h
    | succ j =>
      rw [List.getElem?_cons_succ] at h
      obtain ⟨d, _, e⟩ := startE_get h (by simp)
      cases e
  have sub : ∀ b, ZA Z (some (.ref a) :: L2.start N vs) (Sl.raw ns :: startE N.length ds) b → Z b := fun b h => by
    rcases h with h | ⟨i, o, h, _⟩
    · exact h
    · exact absurd h (noown i o)
  have sub2 : ∀ b, ZA Z (some (.ref a) :: L2.start N vs) (Sl.raw ns :: startE N.length ds) b → ZA Z (L2.start N vs) (startE N.length ds) b := fun b h => .inl (sub b h)
  refine ⟨Same.refl H, z, ⟨by simp [so.e.len], fun b h => z b (sub b h), fun i d h => ?_, fun i ms h => ?_, fun i o h => absurd h (noown i o)⟩, fun i o h => absurd h (noown i o), fun i j o o' a h => absurd h (noown i o)⟩
  · cases i with
    | zero => cases h
    | succ j =>
      rw [List.getElem?_cons_succ] at h ⊢
      obtain ⟨v, h1, h2⟩ := so.e.val j d h
      exact ⟨v, h1, h2.up (Same.cutLe sub2)⟩
  · cases i with
    | zero => cases h; exact ⟨a, rfl, SqL.same hs (Same.cutLe sub)⟩
    | succ j =>
      rw [List.getElem?_cons_succ] at h ⊢
      obtain ⟨v, h1, h2⟩ := so.e.raw j ms h
      exact ⟨v, h1, SqL.same h2 (Same.cutLe sub2)⟩
section
variable {P : Program} {w : World} {K : PySem.W.Frag} {mg : Str → Option Value} {base : Heap}
theorem fn_okR {x qual y : Str} {st : Stmt} {f : Addr} {fd : FuncData} {N ps : List Str} {k : Nat} {g : Env → O} (F : Fun K x qual st f fd) (S : FnScope (y :: N) ps (defScope st))
    (hbody : ∀ (cdv : Value) (A : Around) (outer : List PySem.Env) (s : Shared) (H : Hp) (E : XK), Room k (A.deeper (envOfC qual (defScope st) s.heap.objs.size f cdv)) →
      Takes (cxOf (L2.CX P w) P w K mg base (y :: N) qual (defScope st) f cdv A outer s H E) (fun cls d _ H => E cls d H) →
      PassesOwn (model P w) (cxOf (L2.CX P w) P w K mg base (y :: N) qual (defScope st) f cdv A outer s H E).A (cxOf (L2.CX P w) P w K mg base (y :: N) qual (defScope st) f cdv A outer s H E).env (cxOf (L2.CX P w) P w K mg base (y :: N) qual (defScope st) f cdv A outer s H E).xe →
      FSs (cxOf (L2.CX P w) P w K mg base (y :: N) qual (defScope st) f cdv A outer s H E) (fun cls d _ H => E cls d H) (defBody st) g) :
    FnOk P w K mg base (L2.CX P w) (k + 1) f fd ps (spR K mg ps.length (bodyR (y :: N).length g)) := by
  refine F.okX S (fun vs H Q E h => h.1) fun cdv A outer s H vs Q E hr hsp => ⟨_, (hbody cdv A outer s H E hr (takes_of rfl rfl rfl rfl) (passes_of rfl)).pss, ?_⟩
  obtain ⟨hl, Z, a, ns, vs', ds, rfl, z, hs, r, q⟩ := hsp
  refine ⟨Z, H, _, start_okR z hs r, ?_⟩
  unfold bodyR at q
  show PoS K mg _ Z H _ (g (startR (y :: N).length ns ds))
  cases e : g (startR (y :: N).length ns ds) with
  | nx ρ => rw [e] at q; exact fun σ H' so => q .non H' so.same .non
  | rt d => rw [e] at q; exact fun v H' s p => q v H' s p
  | ex c ρ => rw [e] at q; exact fun σ H' C so m => q H' C so.same m
  | bk ρ => rw [e] at q; exact q.elim
  | ct ρ => rw [e] at q; exact q.elim
  | bad => rw [e] at q; exact q.elim
end
/-- f(script, e, ..) -/
@[simp] def sCallR (i : Nat) (F : List Int → List D → R D) (g : Env → R (List D)) : Env → R D := fun ρ => match ρ.getD i .no with
  | .raw ns => (g ρ).bind (F ns)
  | _ => .bad
section
variable {X : Cx} {W : WX}
theorem fe_callR (i : Nat) {y : Str} {k : Nat} {f : Addr} {fd : FuncData} {ps : List Str} {F : List Int → List D → R D} {x : Str} {p q pos : Pos} {es : List Expr} {g : Env → R (List D)}
    (G : FnOk X.prog X.w X.K X.mg X.base (L2.CX X.prog X.w) k f fd ps (spR X.K X.mg ps.length F)) (hr : Room k X.A) (tk : Takes X W) (hg : Gl X x) (hm : X.mg x = some (.ref f)) (hk : PySem.W.keepIn X.K (.ref f) = true) (hb : Binds X.K fd ps [])
    (ha : FA X W es g) (hn : ∀ ρ ds, g ρ = .ok ds → ds.length + 1 = ps.length) (hN : X.N[i]? = some y := by rfl) (hv : Vis X.env.scope y := by first | exact Or.inl rfl | exact Or.inr (Or.inl rfl) | exact Or.inr (Or.inr rfl))
    (hd : (y == ("__debug__" : Str)) = false := by decide) (hcd : (y == ("__classdict__" : Str)) = false := by decide)
    (hdb : (x == ("__debug__" : Str)) = false := by decide) (he : starEach (.Name y q :: es) X.env = (false, eval (.Name y q) X.env) :: starEach es X.env := by rfl) (hpl : (backTo pos (starEach es X.env)).any (·.1) = false := by rfl) :
    FE X W (.Call (.Name x p) (.Name y q :: es) [] pos) (sCallR i F g) :=
  ⟨PE.imp (pe_callS G hr hg hm hk hb (fun σ => passAt tk σ) (pa_cons (pe_var hN hv hd hcd) ha.pa he) hdb he hpl) fun σ H Q ⟨Z, ρ, e, q⟩ => by
    unfold sCallR at q
    cases h : ρ.getD i .no with
    | raw ns =>
      rw [h] at q
      obtain ⟨a, h1, h2⟩ := e.raw i ns (getD_raw h)
      refine ⟨_, h1, Z, ρ, e, ?_⟩
      rcases q.ofBind with ⟨ds, r, q⟩ | ⟨c, r, q⟩
      · rw [r]
        intro vs H1 s1 p1
        refine ⟨by rw [List.length_cons, p1.length]; exact hn ρ ds r, Z, a, ns, vs, ds, rfl, (e.up s1).zd, SqL.same h2 (Same.cut s1), p1, ?_⟩
        have q := q.up s1
        cases h : F ns ds with
        | ok d => rw [h] at q; exact q
        | exc c => rw [h] at q; exact q
        | bad => rw [h] at q; exact q
      · rw [r]; exact q
    | _ => rw [h] at q; exact (show False from q).elim⟩
end
/-- what a law is to keep to -/
def spLaw (K : PySem.W.Frag) : Sp := fun vs H Q _ => ∃ (a : Addr) (ns : List Int), vs = [.ref a] ∧ ns.length ≤ 63 ∧ SqL K H a (ns.map V.int) ∧ ∀ H', Q (.bl true) H'
theorem law_ok {P : Program} {w : World} {K : PySem.W.Frag} {mg : Str → Option Value} {base : Heap} {k : Nat} {f : Addr} {fd : FuncData} {ps : List Str} {F : List Int → List D → R D} (hp : ps.length = 1) (G : FnOk P w K mg base (L2.CX P w) k f fd ps (spR K mg ps.length F))
    (law : ∀ ns : List Int, ns.length ≤ 63 → F ns [] = .ok (.bool true)) : FnOk P w K mg base (L2.CX P w) k f fd ps (spLaw K) :=
  G.imp fun vs H Q E ⟨a, ns, hv, hl, hs, q⟩ => by
    subst hv
    refine ⟨hp.symm, fun _ => False, a, ns, [], [], rfl, fun a h => h.elim, by rw [cut_none]; exact hs, .nil, ?_⟩
    rw [law ns hl]
    intro v H' s p
    cases p
    exact q H'
theorem law_sp (K : PySem.W.Frag) (H : Hp) (a : Addr) (ns : List Int) (h : ns.length ≤ 63) (_ : Only H) (hs : SqL K H a (ns.map V.int)) : spLaw K [.ref a] H (fun v _ => v = .bl true) fun _ _ _ => False := ⟨a, ns, rfl, h, hs, fun _ => rfl⟩
/-- nothing comes out of the law -/
theorem law_cx {P : Program} {w : World} (H : Hp) (s : Shared) (e : Value) (s' : Shared) (h : L2.CX P w [] H s (fun _ _ _ => False) e s') : False := by
  obtain ⟨_, _, _, _, _, _, _, _, _, _, _, _, z⟩ := h
  exact z
end PL

set_option Elab.async false
set_option linter.all false
set_option autoImplicit false
set_option maxRecDepth 100000
/-! PL15: small things the printed texts lean on -/
namespace PL
open PySem PySem.Spec PyProof.Rows L2
theorem tk0 {X : Cx} : Takes X W0 := takes0
theorem exm_at {K : PySem.W.Frag} {mg : Str → Option Value} {y : Str} {C1 C : Addr} {c : Value} {r : Option Bool} (h1 : mg y = some (.ref C1)) (h2 : mg y = some (.ref C)) (h : PySem.W.exmOne K (.ref C1) c = r) : PySem.W.exmOne K (.ref C) c = r := by
  rw [h1] at h2
  cases h2
  exact h
theorem exm_mk {K : PySem.W.Frag} {C S : Addr} {b : Bool} (h1 : PySem.W.subIn K (.ref S) (.type "BaseException") = some true) (h2 : PySem.W.isClsIn K S = true) (h3 : PySem.W.typeIn K (.ref S) = some (.type "type")) (h4 : PySem.W.subIn K (.ref C) (.ref S) = some b) :
    PySem.W.exmOne K (.ref C) (.ref S) = some b := by
  have hs : (PySem.W.clsIn K S).isSome = true := h2
  simp [PySem.W.exmOne, PySem.W.kitCls, h1, h3, h4, hs]
end PL

set_option Elab.async false
set_option linter.all false
set_option autoImplicit false
set_option maxRecDepth 100000
/-! PL16: the draws that all laws begin with -/
namespace PL
open PySem PySem.Spec PyProof.Rows L2

theorem gMulT_c {i j : Int} (h : -(2 ^ 64) < j ∧ j < 2 ^ 64) : gMulT (.int i) (.int j) = .ok (.int (i * j)) := by
  have c : CMul i j := .inr h
  simp -implicitDefEqProofs [gMulT, gMul, c]
theorem gFdiv_c {i j : Int} (h : 0 < j) (h2 : j < 2 ^ 64) : gFdiv (.int i) (.int j) = .ok (.int (i / j)) := by
  have c : CDivW i j := ⟨h, Nat.lt_of_lt_of_le (PySem.Flt.log2_lt_of (k := 64) (by decide) (by omega)) (by decide)⟩
  simp -implicitDefEqProofs [gFdiv, c]
theorem gMod_c {i j : Int} (h : 0 < j) : gMod (.int i) (.int j) = .ok (.int (i % j)) := by simp -implicitDefEqProofs [gMod, h]
@[simp] theorem gAdd_i {i j : Int} : gAdd (.int i) (.int j) = .ok (.int (i + j)) := rfl
@[simp] theorem gSub_i {i j : Int} : gSub (.int i) (.int j) = .ok (.int (i - j)) := rfl
@[simp] theorem gOrd_i {o : Ord4} {i j : Int} : gOrd o (.int i) (.int j) = .ok (.bool (o.int i j)) := rfl
@[simp] theorem bInt_i {i : Int} : bInt [.int i] = .ok (.int i) := rfl
@[simp] theorem bAbs_i {i : Int} : bAbs [.int i] = .ok (.int (if i < 0 then -i else i)) := rfl
@[simp] theorem bLen_l {xs : List D} : bLen [.list xs] = .ok (.int xs.length) := rfl
theorem pow18 : gPow (.int 10) (.int 18) = .ok (.int (10 ^ 18)) := by kernel_rfl

theorem forGo_ind {put : D → Env → R Env} {body : Env → O} (P : Nat → Env → Prop) : ∀ (items : List D) (k : Nat) (ρ : Env),
    (∀ i d ρ, items[i]? = some d → P (k + i) ρ → ∃ ρ1 ρ2, put d ρ = .ok ρ1 ∧ (body ρ1 = .nx ρ2 ∨ body ρ1 = .ct ρ2) ∧ P (k + i + 1) ρ2) → P k ρ → ∃ ρ', forGo put body items ρ = .nx ρ' ∧ P (k + items.length) ρ'
  | [], k, ρ, _, h => ⟨ρ, rfl, h⟩
  | d :: ds, k, ρ, hs, h => by
    obtain ⟨ρ1, ρ2, h1, h2, h3⟩ := hs 0 d ρ rfl h
    obtain ⟨ρ', h4, h5⟩ := forGo_ind P ds (k + 1) ρ2 (fun i d' ρ' hd hp => by
      obtain ⟨r1, r2, a, b, c⟩ := hs (i + 1) d' ρ' hd (by rw [show k + (i + 1) = k + 1 + i by omega]; exact hp)
      exact ⟨r1, r2, a, b, by rw [show k + 1 + i + 1 = k + (i + 1) + 1 by omega]; exact c⟩) h3
    refine ⟨ρ', ?_, by rw [List.length_cons, show k + (ds.length + 1) = k + 1 + ds.length by omega]; exact h5⟩
    rw [← h4]
    rcases h2 with h2 | h2
    · simp -implicitDefEqProofs [forGo, h1, h2]
    · simp -implicitDefEqProofs [forGo, h1, h2]

/-! ### the text -/
def drSeed1 : Env → R D := sBin gMod (sCb bInt (sCons (sBin gAdd (sBin gAdd (sBin gMulT (sVar 3) (sCst (.int 48271))) (sVar 5)) (sCst (.int 11))) sNil)) (sCst (.int 2147483647))
def drIn : Env → O := sIf (sB (sBin (gOrd .gt) (sVar 5) (sCst (.int 0)))) (sSeq (sApp true 2 (sBin gMod (sCb bInt (sCons (sVar 5) sNil)) (sCst (.int 1009)))) (sSet true (sBin gFdiv (sVar 5) (sCst (.int 1009))) (pOne 5))) sNx
def drApp : Env → O := sApp true 2 (sBin gMod (sBin gFdiv (sCb bInt (sCons (sBin gAdd (sBin gMulT (sVar 3) (sCst (.int 16807))) (sCst (.int 5))) sNil)) (sCst (.int 3))) (sCst (.int 65521)))
def drB1 : Env → O := sSeq (sSet true (sCb bAbs (sCons (sVar 4) sNil)) (pOne 5)) (sSeq (sSet true drSeed1 (pOne 3)) (sIf (sB (sBin (gOrd .ge) (sVar 5) (sBin gPow (sCst (.int 10)) (sCst (.int 18))))) (sFor (sRg rg1 (sCons (sCst (.int 60)) sNil)) (pOne 6) drIn) drApp))
def drB2 : Env → O := sIf (sB (sBin (gOrd .lt) (sCb bLen (sCons (sVar 2) sNil)) (sVar 1))) (sSeq (sSet true (sBin gMod (sCb bInt (sCons (sBin gAdd (sBin gAdd (sBin gMulT (sVar 3) (sCst (.int 69621))) (sVar 6)) (sCst (.int 1))) sNil)) (sCst (.int 2147483647))) (pOne 3)) (sApp true 2 (sBin gMod (sBin gFdiv (sCb bInt (sCons (sVar 3) sNil)) (sCst (.int 7))) (sCst (.int 65521))))) sNx
def drG : Env → O := sSeq (sSetN 2 (sLs sNil)) (sSeq (sSet true (sCst (.int 7)) (pOne 3)) (sSeq (sFor (sIt (sLst (sRawSl 0 sNoP (sPart (sCst (.int 63)))))) (pOne 4) drB1) (sSeq (sFor (sRg rg1 (sCons (sVar 1) sNil)) (pOne 6) drB2) (sRet (sSl (sVar 2) sNoP (sPart (sVar 1)))))))

def drOk (ds : List Int) : Prop := ∀ d ∈ ds, 0 ≤ d ∧ d < 65521
theorem drOk.snoc {ds : List Int} {d : Int} (h : drOk ds) (h0 : 0 ≤ d) (h1 : d < 65521) : drOk (ds ++ [d]) := fun x hx => by
  rcases List.mem_append.mp hx with z | z
  · exact h x z
  · have e : x = d := by simpa using z
    subst e; exact ⟨h0, h1⟩
/-- a state of the draws -/
def drS (ns : List Int) (m : Int) (ds : List Int) (s : Int) (c n k : Sl) : Env := [.raw ns, .val (.int m), .own (.lst (ds.map PyData.int)), .val (.int s), c, n, k]
theorem snoc_map (ds : List Int) (d : Int) : ds.map PyData.int ++ [PyData.int d] = (ds ++ [d]).map PyData.int := by simp
section
variable {ns : List Int} {m s : Int} {ds : List Int} {c n k : Sl}
theorem drIn_ok {x : Int} (hl : ds.length < 4000) (ho : drOk ds) : ∃ ds' x', drIn (drS ns m ds s c (.val (.int x)) k) = .nx (drS ns m ds' s c (.val (.int x')) k) ∧ drOk ds' ∧ ds'.length ≤ ds.length + 1 := by
  by_cases hx : 0 < x
  · refine ⟨ds ++ [x % 1009], x / 1009, ?_, ho.snoc (by omega) (by omega), by simp⟩
    have hz : (ds.map PyData.int).length < sizeLine := by rw [List.length_map, sizeLine_eq]; omega
    have e1 := gMod_c (i := x) (j := 1009) (by decide)
    have e2 := gFdiv_c (i := x) (j := 1009) (by decide) (by decide)
    have hz2 : ds.length < sizeLine := by rw [List.length_map] at hz; exact hz
    simp -implicitDefEqProofs [drIn, drS, rdE, Ord4.int, hx, sApp, lsOf, e1, e2, hz2]
  · refine ⟨ds, x, ?_, ho, by omega⟩
    simp -implicitDefEqProofs [drIn, drS, rdE, Ord4.int, hx]
theorem drApp_ok (hl : ds.length < 4000) (ho : drOk ds) : ∃ ds', drApp (drS ns m ds s c n k) = .nx (drS ns m ds' s c n k) ∧ drOk ds' ∧ ds'.length ≤ ds.length + 1 := by
  refine ⟨ds ++ [(s * 16807 + 5) / 3 % 65521], ?_, ho.snoc (by omega) (by omega), by simp⟩
  have hz2 : ds.length < sizeLine := by rw [sizeLine_eq]; omega
  have e0 := gMulT_c (i := s) (j := 16807) (by decide)
  have e1 := gFdiv_c (i := s * 16807 + 5) (j := 3) (by decide) (by decide)
  have e2 := gMod_c (i := (s * 16807 + 5) / 3) (j := 65521) (by decide)
  simp -implicitDefEqProofs [drApp, drS, sApp, lsOf, e0, e1, e2, hz2]
theorem drB1_ok {x : Int} (hl : ds.length < 3900) (ho : drOk ds) : ∃ ds' s' n' k', drB1 (drS ns m ds s (.val (.int x)) n k) = .nx (drS ns m ds' s' (.val (.int x)) n' k') ∧ drOk ds' ∧ ds'.length ≤ ds.length + 60 := by
  have e0 := gMulT_c (i := s) (j := 48271) (by decide)
  generalize hax : (if x < 0 then -x else x) = ax
  have e1 := gMod_c (i := s * 48271 + ax + 11) (j := 2147483647) (by decide)
  by_cases hb : (10 : Int) ^ 18 ≤ ax
  · have r60 : rg1 [.int 60] = .ok (intsD 0 60) := by kernel_rfl
    obtain ⟨ρ', h1, h2⟩ := forGo_ind (put := pOne 6) (body := drIn) (fun i ρ => ∃ ds' x' k', ρ = drS ns m ds' ((s * 48271 + ax + 11) % 2147483647) (.val (.int x)) (.val (.int x')) k' ∧ drOk ds' ∧ ds'.length ≤ ds.length + i) (intsD 0 60) 0
      (drS ns m ds ((s * 48271 + ax + 11) % 2147483647) (.val (.int x)) (.val (.int ax)) k) (fun i d ρ hd ⟨ds', x', k', hρ, ho', hl'⟩ => by
        subst hρ
        have hi : i < 60 := by
          have := (List.getElem?_eq_some_iff.mp hd).1
          rwa [intsD_length] at this
        obtain ⟨ds2, x2, h, o2, l2⟩ := drIn_ok (ns := ns) (m := m) (s := (s * 48271 + ax + 11) % 2147483647) (c := .val (.int x)) (k := .val d) (x := x') (ds := ds') (by omega) ho'
        exact ⟨_, _, rfl, .inl h, ds2, x2, _, rfl, o2, by omega⟩) ⟨ds, ax, k, rfl, ho, by omega⟩
    obtain ⟨ds', x', k', rfl, ho', hl'⟩ := h2
    refine ⟨ds', (s * 48271 + ax + 11) % 2147483647, .val (.int x'), k', ?_, ho', by rw [intsD_length] at hl'; omega⟩
    · have h1' := h1
      unfold drS at h1' ⊢
      have hb2 : (1000000000000000000 : Int) ≤ ax := by simpa using hb
      simp -implicitDefEqProofs [drB1, drSeed1, rdE, hax, e0, e1, pow18, Ord4.int, hb2, r60]
      exact h1'
  · obtain ⟨ds', h, ho', hl'⟩ := drApp_ok (ns := ns) (m := m) (s := (s * 48271 + ax + 11) % 2147483647) (c := .val (.int x)) (n := .val (.int ax)) (k := k) (ds := ds) (by omega) ho
    refine ⟨ds', (s * 48271 + ax + 11) % 2147483647, .val (.int ax), k, ?_, ho', by omega⟩
    unfold drS at h ⊢
    have hb2 : ¬ (1000000000000000000 : Int) ≤ ax := by simpa using hb
    simp -implicitDefEqProofs [drB1, drSeed1, rdE, hax, e0, e1, pow18, Ord4.int, hb2]
    exact h
theorem drB2_ok {i : Int} (hl : ds.length < 5000) (ho : drOk ds) : ∃ ds' s', drB2 (drS ns m ds s c n (.val (.int i))) = .nx (drS ns m ds' s' c n (.val (.int i))) ∧ drOk ds' ∧ ds'.length ≤ ds.length + 1 ∧ (((ds.length : Int) < m → ds'.length = ds.length + 1) ∧ (¬ (ds.length : Int) < m → ds' = ds)) := by
  by_cases hb : (ds.length : Int) < m
  · have e0 := gMulT_c (i := s) (j := 69621) (by decide)
    have e1 := gMod_c (i := s * 69621 + i + 1) (j := 2147483647) (by decide)
    have e2 := gFdiv_c (i := (s * 69621 + i + 1) % 2147483647) (j := 7) (by decide) (by decide)
    have e3 := gMod_c (i := (s * 69621 + i + 1) % 2147483647 / 7) (j := 65521) (by decide)
    have hz2 : ds.length < sizeLine := by rw [sizeLine_eq]; omega
    refine ⟨ds ++ [(s * 69621 + i + 1) % 2147483647 / 7 % 65521], (s * 69621 + i + 1) % 2147483647, ?_, ho.snoc (by omega) (by omega), by simp, fun _ => by simp, fun h => absurd hb h⟩
    simp -implicitDefEqProofs [drB2, drS, rdE, Ord4.int, hb, sApp, lsOf, e0, e1, e2, e3, hz2]
  · refine ⟨ds, s, ?_, ho, by omega, fun h => absurd h hb, fun _ => rfl⟩
    simp -implicitDefEqProofs [drB2, drS, rdE, Ord4.int, hb]
end
theorem cut_63 (ns : List Int) (h : ns.length ≤ 63) : cutD ns none (some 63) = ns := by
  have e1 : HT.sIx ns.length 0 none = 0 := rfl
  have e2 : HT.sIx ns.length ns.length (some 63) = ns.length := by
    have e : HT.sIx ns.length ns.length (some 63) = min 63 ns.length := rfl
    rw [e]
    omega
  unfold cutD
  rw [e1, e2]
  simp
theorem loop1 (ns : List Int) (h : ns.length ≤ 63) (m : Int) : ∃ ds s c n k, forGo (pOne 4) drB1 (ns.map PyData.int) (drS ns m [] 7 .no .no .no) = .nx (drS ns m ds s c n k) ∧ drOk ds ∧ ds.length ≤ 3780 := by
  obtain ⟨ρ1, h1, h2⟩ := forGo_ind (put := pOne 4) (body := drB1) (fun i ρ => ∃ ds s c n k, ρ = drS ns m ds s c n k ∧ drOk ds ∧ ds.length ≤ 60 * i) (ns.map PyData.int) 0
    (drS ns m [] 7 .no .no .no) (fun i d ρ hd ⟨ds, s, c, n, k, hρ, ho, hl⟩ => by
      subst hρ
      rw [List.getElem?_map] at hd
      cases e : ns[i]? with
      | none => rw [e] at hd; cases hd
      | some x =>
        rw [e] at hd
        obtain rfl := (Option.some.inj hd).symm
        have hi : i < ns.length := (List.getElem?_eq_some_iff.mp e).1
        obtain ⟨ds', s', n', k', h, o', l'⟩ := drB1_ok (ns := ns) (m := m) (s := s) (n := n) (k := k) (x := x) (ds := ds) (by omega) ho
        exact ⟨_, _, rfl, .inl h, ds', s', _, _, _, rfl, o', by omega⟩) ⟨[], 7, _, _, _, rfl, (fun _ h => by cases h), by simp⟩
  obtain ⟨ds, s, c, n, k, rfl, ho, hl⟩ := h2
  rw [List.length_map] at hl
  exact ⟨ds, s, c, n, k, h1, ho, by omega⟩
theorem loop2 (ns : List Int) (m : Nat) (hm : m ≤ 200) (ds : List Int) (s : Int) (c n k : Sl) (ho : drOk ds) (hl : ds.length ≤ 3780) : ∃ ds' s' c' n' k', forGo (pOne 6) drB2 (intsD 0 m) (drS ns m ds s c n k) = .nx (drS ns m ds' s' c' n' k') ∧ drOk ds' ∧ m ≤ ds'.length := by
  obtain ⟨ρ2, h3, h4⟩ := forGo_ind (put := pOne 6) (body := drB2) (fun i ρ => ∃ ds s c n k, ρ = drS ns m ds s c n k ∧ drOk ds ∧ ds.length ≤ 3780 + i ∧ (i ≤ ds.length ∨ m ≤ ds.length)) (intsD 0 m) 0
    (drS ns m ds s c n k) (fun i d ρ hd ⟨ds, s, c, n, k, hρ, ho, hl, hm'⟩ => by
      subst hρ
      have hi : i < m := by
        have := (List.getElem?_eq_some_iff.mp hd).1
        rwa [intsD_length] at this
      rw [intsD_get hi] at hd
      obtain rfl := Option.some.inj hd
      obtain ⟨ds', s', h, o', l', g1, g2⟩ := drB2_ok (ns := ns) (m := m) (s := s) (c := c) (n := n) (i := 0 + (i : Nat)) (ds := ds) (by omega) ho
      refine ⟨_, _, rfl, .inl h, ds', s', _, _, _, rfl, o', by omega, ?_⟩
      by_cases hb : (ds.length : Int) < m
      · have := g1 hb; omega
      · have := g2 hb; subst this; omega) ⟨ds, s, c, n, k, rfl, ho, by omega, by omega⟩
  obtain ⟨ds2, s2, c2, n2, k2, rfl, ho2, hl2, hm2⟩ := h4
  rw [intsD_length] at hm2
  exact ⟨ds2, s2, c2, n2, k2, h3, ho2, by omega⟩
theorem cut_m (ds2 : List Int) (m : Nat) (hm : m ≤ ds2.length) : cutD (ds2.map PyData.int) none (some (m : Int)) = (ds2.take m).map PyData.int := by
  have e1 : HT.sIx (ds2.map PyData.int).length 0 none = 0 := rfl
  have e2 : HT.sIx (ds2.map PyData.int).length (ds2.map PyData.int).length (some (m : Int)) = m := by
    have e : HT.sIx (ds2.map PyData.int).length (ds2.map PyData.int).length (some (m : Int)) = min m (ds2.map PyData.int).length := by
      have h0 : ¬ ((m : Int) < 0) := by omega
      simp -implicitDefEqProofs [HT.sIx, h0]
    rw [e, List.length_map]
    omega
  unfold cutD
  rw [e1, e2]
  simp -implicitDefEqProofs [List.map_take]
theorem rg_m (m : Nat) (hm : m ≤ 200) : rg1 [.int m] = .ok (intsD 0 m) := by
  have c : rgOk 0 (m : Int) = true := by
    unfold rgOk
    simp only [Bool.and_eq_true, decide_eq_true_eq]
    omega
  simp -implicitDefEqProofs [rg1, c]
theorem bind_ok {α β : Type} (a : α) (f : α → R β) : R.bind (R.ok a) f = f a := rfl
theorem seq_nx {f g : Env → O} {ρ ρ' : Env} (h : f ρ = .nx ρ') : sSeq f g ρ = g ρ' := by unfold sSeq; rw [h]
theorem dr_a1 (ns : List Int) (h : ns.length ≤ 63) (x y z u v w : Sl) : sIt (sLst (sRawSl 0 sNoP (sPart (sCst (.int 63))))) [.raw ns, x, y, z, u, v, w] = .ok (ns.map PyData.int) := by
  have c3 := cut_63 ns h
  simp -implicitDefEqProofs [c3, itemsOf, sLst]
theorem dr_a4 (ns : List Int) (m : Nat) (hm : m ≤ 200) (y z u v w : Sl) : sRg rg1 (sCons (sVar 1) sNil) [.raw ns, .val (.int m), y, z, u, v, w] = .ok (intsD 0 m) := by
  have e : sCons (sVar 1) sNil [.raw ns, .val (.int m), y, z, u, v, w] = .ok [.int m] := rfl
  unfold sRg
  rw [e]
  exact (bind_ok _ _).trans (rg_m m hm)
theorem dr_a5 (ns : List Int) (m : Nat) : (sSetN 2 (sLs sNil)) [.raw ns, .val (.int m), .no, .no, .no, .no, .no] = .nx [.raw ns, .val (.int m), .own (.lst []), .no, .no, .no, .no] := by simp -implicitDefEqProofs [okLen]
theorem dr_a6 (ns : List Int) (m : Nat) : (sSet true (sCst (.int 7)) (pOne 3)) [.raw ns, .val (.int m), .own (.lst []), .no, .no, .no, .no] = .nx [.raw ns, .val (.int m), .own (.lst []), .val (.int 7), .no, .no, .no] := by simp
theorem dr_a7 (ns ds2 : List Int) (m : Nat) (hm : m ≤ ds2.length) (z u v w : Sl) : sRet (sSl (sVar 2) sNoP (sPart (sVar 1))) [.raw ns, .val (.int m), .own (.lst (ds2.map PyData.int)), z, u, v, w] = .rt (.list ((ds2.take m).map PyData.int)) := by
  have cm := cut_m ds2 m hm
  simp -implicitDefEqProofs [rdE, gSl, cm]
theorem for_nx {items : Env → R (List D)} {put : D → Env → R Env} {body : Env → O} {ρ ρ' : Env} {ds : List D} (h : items ρ = .ok ds) (h2 : forGo put body ds ρ = .nx ρ') : sFor items put body ρ = .nx ρ' := by unfold sFor; rw [h]; exact h2
theorem bodyR_rt {n : Nat} {f : Env → O} {ns : List Int} {ds : List D} {d : D} (h : f (startR n ns ds) = .rt d) : bodyR n f ns ds = .ok d := by unfold bodyR; rw [h]; rfl
/-- the draws: so many, each below 65521 -/
theorem draws_ok (ns : List Int) (h : ns.length ≤ 63) (m : Nat) (hm : m ≤ 200) : ∃ ds : List Int, bodyR 7 drG ns [.int m] = .ok (.list (ds.map PyData.int)) ∧ ds.length = m ∧ drOk ds := by
  obtain ⟨ds, s, c, n, k, h1, ho, hl⟩ := loop1 ns h m
  obtain ⟨ds2, s2, c2, n2, k2, h3, ho2, hm2⟩ := loop2 ns m hm ds s c n k ho hl
  exact ⟨ds2.take m, (bodyR_rt ((seq_nx (dr_a5 ns m)).trans ((seq_nx (dr_a6 ns m)).trans ((seq_nx (for_nx (dr_a1 ns h _ _ _ _ _ _) h1)).trans ((seq_nx (for_nx (dr_a4 ns m hm _ _ _ _ _) h3)).trans (dr_a7 ns ds2 m hm2 _ _ _ _)))))), by rw [List.length_take]; omega, fun d hd => ho2 d (List.mem_of_mem_take hd)⟩
end PL

set_option Elab.async false
set_option linter.all false
set_option autoImplicit false
set_option maxRecDepth 100000
/-! PL17: a module's constant tuples; len(set(..)) -/
namespace PL
open PySem PySem.Spec PyProof.Rows L2
/-- the tuple that the top has laid at a -/
def GTup (K : PySem.W.Frag) (a : Addr) (ds : List D) : Prop := ∃ (o : Obj) (its : Array Value) (n : Nat) (vs : List V), K.lookup a = some o ∧ o.cls = .type "tuple" ∧ o.dict = none ∧ o.data = .seq its n ∧ its.size ≤ sizeLine ∧ Vals vs its.toList ∧ ∀ H, RpA K H vs ds
section
variable {X : Cx} {W : WX} {pos : Pos}
theorem fe_gtup {x : Str} {a : Addr} {ds : List D} (hg : Gl X x) (hm : X.mg x = some (.ref a)) (ht : GTup X.K a ds) (hd : (x == ("__debug__" : Str)) = false := by decide) : FE X W (.Name x pos) (sCst (.tuple ds)) :=
  ⟨PE.imp (pe_glob (v := .ref a) hg hm rfl hd) fun _ H _ ⟨Z, _, _, q⟩ => by
    obtain ⟨o, its, n, vs, h1, h2, h3, h4, h5, h6, h7⟩ := ht
    exact q _ H (Same.refl H) (.tup (.inr ⟨o, its, n, h1, h2, h3, h4, h5, h6⟩) (h7 _))⟩

/-! ### len(set(xs)), xs a list of tuples of ints -/
def asTupI : D → Option (List Int)
  | .tuple ds => asInts ds
  | _ => none
def asTupsI : List D → Option (List (List Int))
  | [] => some []
  | d :: ds => match asTupI d, asTupsI ds with
    | some x, some xs => some (x :: xs)
    | _, _ => none
/-- each once -/
def distL : List (List Int) → List (List Int)
  | [] => []
  | x :: xs => if x ∈ distL xs then distL xs else x :: distL xs
theorem mem_distL {x : List Int} : ∀ {l : List (List Int)}, x ∈ distL l ↔ x ∈ l
  | [] => Iff.rfl
  | y :: l => by
    have ih := mem_distL (x := x) (l := l)
    unfold distL
    split
    · next h =>
      rw [ih, List.mem_cons]
      constructor
      · exact .inr
      · rintro (rfl | h2)
        · exact mem_distL.mp h
        · exact h2
    · rw [List.mem_cons, List.mem_cons, ih]
theorem nodup_distL : ∀ l : List (List Int), (distL l).Nodup
  | [] => List.nodup_nil
  | y :: l => by
    unfold distL
    split
    · exact nodup_distL l
    · next h => exact List.nodup_cons.mpr ⟨h, nodup_distL l⟩
theorem len_sub {α : Type} [DecidableEq α] : ∀ {l r : List α}, l.Nodup → (∀ x ∈ l, x ∈ r) → l.length ≤ r.length
  | [], _, _, _ => Nat.zero_le _
  | x :: l, r, h, s => by
    obtain ⟨h1, h2⟩ := List.nodup_cons.mp h
    have hx := s x List.mem_cons_self
    have := len_sub (l := l) (r := r.erase x) h2 fun y hy => (List.mem_erase_of_ne (fun e => h1 (by rw [← e]; exact hy))).mpr (s y (List.mem_cons_of_mem _ hy))
    rw [List.length_erase_of_mem hx] at this
    have hp : 0 < r.length := List.length_pos_of_mem hx
    rw [List.length_cons]
    omega
theorem len_same {α : Type} [DecidableEq α] {l r : List α} (hl : l.Nodup) (hr : r.Nodup) (h : ∀ x, x ∈ l ↔ x ∈ r) : l.length = r.length :=
  Nat.le_antisymm (len_sub hl fun x hx => (h x).mp hx) (len_sub hr fun x hx => (h x).mpr hx)
theorem rp_tupI {K : PySem.W.Frag} {H : Hp} : ∀ {ds : List D} {ks : List (List Int)} {vs : List V}, asTupsI ds = some ks → RpA K H vs ds → ∃ ps : List (Addr × List Int), vs = ps.map (fun p => V.ref p.1) ∧ ps.map (·.2) = ks ∧ ∀ p ∈ ps, SqT K H p.1 (p.2.map V.int)
  | [], ks, vs, h, r => by
    cases h; cases r
    exact ⟨[], rfl, rfl, fun _ h => by cases h⟩
  | d :: ds, ks, vs, h, r => by
    simp only [asTupsI] at h
    cases h1 : asTupI d with
    | none => rw [h1] at h; cases h
    | some x =>
      cases h2 : asTupsI ds with
      | none => rw [h1, h2] at h; cases h
      | some xs =>
        rw [h1, h2] at h
        cases h
        cases r with
        | cons p1 p2 =>
          obtain ⟨ps, e1, e2, e3⟩ := rp_tupI h2 p2
          cases d with
          | tuple es =>
            have e4 := asInts_map (show asInts es = some x from h1)
            subst e4
            cases p1 with
            | @tup a us _ ht ha =>
              have e5 := ha.ints
              subst e5
              refine ⟨(a, x) :: ps, by rw [e1]; rfl, by rw [← e2]; rfl, fun p hp => ?_⟩
              rcases List.mem_cons.mp hp with rfl | hp
              · exact ht.sqT
              · exact e3 p hp
          | _ => cases h1
/-- len(set(xs)) -/
def gLenSet : D → R D
  | .list ds => match asTupsI ds with
    | some ks => if ks.length < 64 then .ok (.int (distL ks).length) else .bad
    | none => .bad
  | _ => .bad
@[simp] def sLenSet (f : Env → R D) : Env → R D := fun ρ => (f ρ).bind fun d => (gLenSet d).nox
theorem fe_lenSet {a : Expr} {f : Env → R D} {p p2 q pos : Pos} (hc : X.calm = true) (hu : X.A.units + 80 < cLine) (hg : Gl X "len") (hm : X.mg "len" = none) (hg2 : Gl X "set") (hm2 : X.mg "set" = none) (ha : FE X W a f)
    (na : starEach [a] X.env = (false, eval a X.env) :: starEach [] X.env := by rfl) : FE X W (.Call (.Name "len" p) [.Call (.Name "set" p2) [a] [] q] [] pos) (sLenSet f) := by
  refine ⟨⟨fun pins s σ H Q I ⟨Z, ρ, e, qq⟩ => ?_⟩⟩
  refine Call_ (ld_blt I hg hm PySem.boot_len ?_)
  refine PyProof.Rows.callWith_builtin1 (PyProof.Rows.args_cons ?_ rfl) rfl rfl
  refine Call_ (ld_blt I hg2 hm2 PyProof.Rows.boot_set ?_)
  have hq : tF X.K X.mg W f σ H fun x H1 => ∃ d, Rp X.K (cut Z H1) x d ∧ ∃ r, gLenSet d = .ok r ∧ ∀ v H', Same H1 H' → Rp X.K (cut Z H') v r → Q v H' := by
    refine tF.first e qq fun d r1 q1 v H1 s1 p1 => ?_
    obtain ⟨r2, e2, q2⟩ := (q1.up s1).nox_of
    exact ⟨d, p1, r2, e2, q2⟩
  refine PyProof.Rows.callWith_type1 (PyProof.Rows.args_cons (thn (ha.pe.run pins s σ H _ I hq) fun v s1 ⟨x, H1, I1, r1, d, p1, r2, e2, q2⟩ => PyProof.Rows.args_nil ?_) na) na rfl
  cases p1 with
  | @lst l vs ds h1 h2 =>
    cases r1
    simp only [gLenSet] at e2
    cases hk : asTupsI ds with
    | none => rw [hk] at e2; cases e2
    | some ks =>
      rw [hk] at e2
      simp only at e2
      by_cases hf : ks.length < 64
      · rw [if_pos hf] at e2
        cases e2
        obtain ⟨ps, e1, e3, e4⟩ := rp_tupI hk h2
        subst e1
        obtain ⟨its, rv, pl, hz⟩ := I1.list (SqL.of (cut_some.mp h1).2)
        refine call_set_tups (P := X.prog) (w := X.w) ps (I1.ok.hd hc) pl.isList (by simpa using refs_of_vals rv) (fun p hp => I1.isT (SqT.same (e4 p hp) Same.uncut)) (by rw [← e3, List.length_map] at hf; exact hf) (by omega) fun h' tk L es ep t R g k => ?_
        refine PyProof.Rows.args_nil ?_
        obtain ⟨o, ho, hex, hd⟩ := R.ob
        have hsz : es.size = L.length := by
          have h := congrArg List.length R.rows
          unfold rowsOf at h
          rw [Array.length_toList, List.length_map] at h
          exact h
        have hn : es.size = (distL ks).length := by
          rw [hsz, ← List.length_map (f := (·.2)) (as := L)]
          refine len_same R.nd (nodup_distL ks) fun x => ?_
          rw [mem_distL, ← e3]
          constructor
          · intro hx
            obtain ⟨p, hp, rfl⟩ := List.mem_map.mp hx
            exact List.mem_map.mpr ⟨p, List.mem_of_mem_take (g.sub p hp), rfl⟩
          · intro hx
            obtain ⟨p, hp, rfl⟩ := List.mem_map.mp hx
            exact g.all p (by rw [List.take_length]; exact hp)
        have I2 : Inv X pins σ H1 { s1 with heap := h', toks := tk } := I1.kept k
        have few := R.few
        refine call_len_set ho hex hd (SetTR.fits (s := { s1 with heap := h', toks := tk }) R) (by rw [hsz]; omega) ⟨.int (distL ks).length, H1, I2.tok _, ⟨_, by rw [hn]⟩, q2 _ _ (Same.refl H1) (.int _)⟩
      · rw [if_neg hf] at e2; cases e2
  | _ => exact (show False from by simp [gLenSet] at e2).elim
end
end PL

set_option Elab.async false
set_option linter.all false
set_option autoImplicit false
set_option maxRecDepth 100000
/-! PL18: dicts -/
namespace PL
open PySem PySem.Spec PyProof.Rows L2

/-! ### on data -/
def keyOf : D → Option Key
  | .int i => some (.inl i)
  | .str x => some (.inr x)
  | _ => none
def kEq : D → D → Bool
  | .int i, .int j => i == j
  | .str x, .str y => x == y
  | _, _ => false
def dLook : List (D × D) → D → Option D
  | [], _ => none
  | p :: r, k => if kEq p.1 k then some p.2 else dLook r k
def dPutD (ds : List (D × D)) (k d : D) : List (D × D) := if (ds.any fun p => kEq p.1 k) = true then ds.map (fun p => if kEq p.1 k then (p.1, d) else p) else ds ++ [(k, d)]
theorem kEq_key (a b : Key) : kEq (keyD a) (keyD b) = decide (a = b) := by
  cases a <;> cases b <;> simp [kEq, keyD] <;> first | rfl | (rw [beq_eq_decide]) | skip
theorem key_of_d {K : PySem.W.Frag} {H : Hp} {y : V} {d : D} {k : Key} (p : Rp K H y d) (h : keyOf d = some k) : y = kV k ∧ d = keyD k := by
  cases p with
  | int i => cases h; exact ⟨rfl, rfl⟩
  | str x => cases h; exact ⟨rfl, rfl⟩
  | _ => cases h
section
variable {K : PySem.W.Frag} {H : Hp}
theorem RpK.length : ∀ {kvs : List (Key × V)} {ds : List (D × D)}, RpK K H kvs ds → kvs.length = ds.length
  | _, _, .nil => rfl
  | _, _, .cons _ h => by rw [List.length_cons, List.length_cons, RpK.length h]
theorem RpK.look (k : Key) : ∀ {kvs : List (Key × V)} {ds : List (D × D)}, RpK K H kvs ds → (valV kvs k = none ∧ dLook ds (keyD k) = none) ∨ ∃ v d, valV kvs k = some v ∧ dLook ds (keyD k) = some d ∧ Rp K H v d
  | _, _, .nil => .inl ⟨rfl, rfl⟩
  | _, _, .cons (k := k') (v := v) (d := d) h1 h2 => by
    by_cases e : k' = k
    · subst e
      exact .inr ⟨v, d, valV_pos rfl, by simp [dLook, kEq_key], h1⟩
    · have e1 : ∀ r : List (Key × V), valV ((k', v) :: r) k = valV r k := fun r => valV_neg e
      have e2 : ∀ r : List (D × D), dLook ((keyD k', d) :: r) (keyD k) = dLook r (keyD k) := fun r => by simp [dLook, kEq_key, e]
      rw [e1, e2]
      exact RpK.look k h2
theorem RpK.anyK (k : Key) : ∀ {kvs : List (Key × V)} {ds : List (D × D)}, RpK K H kvs ds → (kvs.any fun kv => decide (kv.1 = k)) = ds.any fun p => kEq p.1 (keyD k)
  | _, _, .nil => rfl
  | _, _, .cons h1 h2 => by rw [List.any_cons, List.any_cons, RpK.anyK k h2, kEq_key]
theorem RpK.mapK (k : Key) {v : V} {d : D} (r : Rp K H v d) : ∀ {kvs : List (Key × V)} {ds : List (D × D)}, RpK K H kvs ds → RpK K H (kvs.map fun kv => if kv.1 = k then (kv.1, v) else kv) (ds.map fun p => if kEq p.1 (keyD k) then (p.1, d) else p)
  | _, _, .nil => .nil
  | _, _, .cons (k := k') h1 h2 => by
    rw [List.map_cons, List.map_cons]
    by_cases e : k' = k
    · subst e
      simp only [kEq_key, decide_true, if_true]
      exact .cons r (RpK.mapK k' r h2)
    · simp only [kEq_key, e, decide_false, if_false, Bool.false_eq_true]
      exact .cons h1 (RpK.mapK k r h2)
theorem RpK.snoc {k : Key} {v : V} {d : D} (r : Rp K H v d) : ∀ {kvs : List (Key × V)} {ds : List (D × D)}, RpK K H kvs ds → RpK K H (kvs ++ [(k, v)]) (ds ++ [(keyD k, d)])
  | _, _, .nil => .cons r .nil
  | _, _, .cons h1 h2 => .cons h1 (RpK.snoc r h2)
theorem RpK.put {k : Key} {v : V} {d : D} {kvs : List (Key × V)} {ds : List (D × D)} (h : RpK K H kvs ds) (r : Rp K H v d) : RpK K H (putK kvs k v) (dPutD ds (keyD k) d) := by
  unfold putK dPutD
  rw [RpK.anyK k h]
  split
  · exact RpK.mapK k r h
  · exact RpK.snoc r h
theorem RpK.get : ∀ {kvs : List (Key × V)} {ds : List (D × D)} {i : Nat} {k : Key} {v : V}, RpK K H kvs ds → kvs[i]? = some (k, v) → ∃ d, ds[i]? = some (keyD k, d) ∧ Rp K H v d
  | _, _, _, _, _, .nil, e => by simp at e
  | _, _, 0, _, _, .cons h1 _, e => by simp at e; obtain ⟨rfl, rfl⟩ := e; exact ⟨_, rfl, h1⟩
  | _, _, i + 1, _, _, .cons _ h2, e => by
    obtain ⟨d, a, b⟩ := RpK.get (i := i) h2 (by simpa using e)
    exact ⟨d, by simpa using a, b⟩
theorem RpK.keys : ∀ {kvs : List (Key × V)} {ds : List (D × D)}, RpK K H kvs ds → RpA K H (kvs.map fun kv => kV kv.1) (ds.map (·.1))
  | _, _, .nil => .nil
  | _, _, .cons (k := k) h1 h2 => by
    refine .cons ?_ (RpK.keys h2)
    cases k with
    | inl i => exact .int i
    | inr x => exact .str x
end

/-! ### an expression that gives a dict to be read -/
def PoX (K : PySem.W.Frag) (mg : Str → Option Value) (W : WX) (Z : Addr → Prop) (σ : L2.St) (H : Hp) (Q : VK) : R (List (D × D)) → Prop
  | .ok ds => ∀ a kvs H', Same H H' → (∀ H'', Same H' H'' → Rd H'' a (.dK kvs)) → RpK K (cut Z H') kvs ds → Q (.ref a) H'
  | .exc c => ∀ H' C, Same H H' → mg c = some (.ref C) → W (.ref C) none σ H'
  | .bad => False
def tX (K : PySem.W.Frag) (mg : Str → Option Value) (W : WX) (f : Env → R (List (D × D))) : TE := fun σ H Q => ∃ Z ρ, EOk K Z H σ ρ ∧ PoX K mg W Z σ H Q (f ρ)
structure FX (X : Cx) (W : WX) (e : Expr) (f : Env → R (List (D × D))) : Prop where
  px : PE X e (tX X.K X.mg W f)
/-- a new dict -/
def PoD (K : PySem.W.Frag) (mg : Str → Option Value) (W : WX) (Z : Addr → Prop) (σ : L2.St) (H : Hp) (Q : VK) : R (List (D × D)) → Prop
  | .ok ds => ∀ p kvs H', Same H H' → H p = none → H' p = some (.dK kvs) → RpK K (cut (fun a => Z a ∨ a = p) H') kvs ds → Q (.ref p) H'
  | .exc c => ∀ H' C, Same H H' → mg c = some (.ref C) → W (.ref C) none σ H'
  | .bad => False
def tD (K : PySem.W.Frag) (mg : Str → Option Value) (W : WX) (f : Env → R (List (D × D))) : TE := fun σ H Q => ∃ Z ρ, EOk K Z H σ ρ ∧ PoD K mg W Z σ H Q (f ρ)
structure FD (X : Cx) (W : WX) (e : Expr) (f : Env → R (List (D × D))) : Prop where
  pe : PE X e (tD X.K X.mg W f)
def asDct : D → R (List (D × D))
  | .dict ds => .ok ds
  | _ => .bad
@[simp] def sXv (f : Env → R D) : Env → R (List (D × D)) := fun ρ => (f ρ).bind asDct
@[simp] def sXo (i : Nat) : Env → R (List (D × D)) := fun ρ => match ρ.getD i .no with
  | .own (.dct ds) => .ok ds
  | _ => .bad
section
variable {X : Cx} {W : WX} {K : PySem.W.Frag} {mg : Str → Option Value} {Z : Addr → Prop} {σ : L2.St} {H H' : Hp} {pos : Pos}
theorem PoX.ofBind {α : Type} {Q : VK} {r : R α} {k : α → R (List (D × D))} (h : PoX K mg W Z σ H Q (r.bind k)) : (∃ a, r = .ok a ∧ PoX K mg W Z σ H Q (k a)) ∨ ∃ c, r = .exc c ∧ PoX K mg W Z σ H Q (.exc c) := by
  cases r with
  | ok a => exact .inl ⟨a, rfl, h⟩
  | exc c => exact .inr ⟨c, rfl, h⟩
  | bad => exact h.elim
theorem PoD.ofBind {α : Type} {Q : VK} {r : R α} {k : α → R (List (D × D))} (h : PoD K mg W Z σ H Q (r.bind k)) : (∃ a, r = .ok a ∧ PoD K mg W Z σ H Q (k a)) ∨ ∃ c, r = .exc c ∧ PoD K mg W Z σ H Q (.exc c) := by
  cases r with
  | ok a => exact .inl ⟨a, rfl, h⟩
  | exc c => exact .inr ⟨c, rfl, h⟩
  | bad => exact h.elim
theorem fx_val {e : Expr} {f : Env → R D} (h : FE X W e f) : FX X W e (sXv f) :=
  ⟨PE.imp h.pe fun σ H Q ⟨Z, ρ, e, q⟩ => by
    refine ⟨Z, ρ, e, ?_⟩
    rcases q.ofBind with ⟨d, r, q⟩ | ⟨c, r, q⟩
    · rw [r]
      intro v H1 s1 p
      cases p with
      | dct h1 h2 => exact q _ _ _ s1 (fun H'' s => .inr ⟨_, s _ _ (cut_some.mp h1).2⟩) h2
      | _ => exact q.elim
    · rw [r]; exact q⟩
theorem fx_own (i : Nat) {x : Str} (hN : X.N[i]? = some x := by rfl) (hv : Vis X.env.scope x := by first | exact Or.inl rfl | exact Or.inr (Or.inl rfl) | exact Or.inr (Or.inr rfl))
    (hd : (x == ("__debug__" : Str)) = false := by decide) (hcd : (x == ("__classdict__" : Str)) = false := by decide) : FX X W (.Name x pos) (sXo i) :=
  ⟨PE.imp (pe_var hN hv hd hcd) fun σ H Q ⟨Z, ρ, e, q⟩ => by
    unfold sXo at q
    split at q
    · next ds hd =>
      have hi : ρ[i]? = some (.own (.dct ds)) := by
        rw [List.getD_eq_getElem?_getD] at hd
        cases e : ρ[i]? with
        | none => rw [e] at hd; cases hd
        | some s => rw [e] at hd; exact congrArg some hd
      obtain ⟨a, h1, kvs, h2, h3⟩ := e.own i _ hi
      exact ⟨_, h1, q a kvs H (Same.refl H) (fun H'' s => .inl (s _ _ h2)) h3⟩
    · exact q.elim⟩
/-- reading a dict ahead of what follows -/
theorem tX.first {f : Env → R (List (D × D))} {ρ : Env} {Q : VK} {k : List (D × D) → R D} {t : V → Hp → Prop} (e : EOk K Z H σ ρ) (q : PoE K mg W Z σ H Q ((f ρ).bind k))
    (go : ∀ ds, f ρ = .ok ds → PoE K mg W Z σ H Q (k ds) → ∀ a kvs H', Same H H' → (∀ H'', Same H' H'' → Rd H'' a (.dK kvs)) → RpK K (cut Z H') kvs ds → t (.ref a) H') : tX K mg W f σ H t := by
  refine ⟨Z, ρ, e, ?_⟩
  rcases q.ofBind with ⟨a, r, q⟩ | ⟨c, r, q⟩
  · rw [r]; exact go a r q
  · rw [r]; exact q
/-- d[k] -/
def dGetR (ds : List (D × D)) (k : D) : R D := match keyOf k with
  | some _ => match dLook ds k with
    | some d => .ok d
    | none => .bad
  | none => .bad
@[simp] def sDix (f : Env → R (List (D × D))) (g : Env → R D) : Env → R D := fun ρ => (f ρ).bind fun ds => (g ρ).bind fun k => (dGetR ds k).nox
theorem fe_dix {o i : Expr} {f : Env → R (List (D × D))} {g : Env → R D} (hu : X.A.units + 80 < cLine) (ho : FX X W o f) (hi : FE X W i g) (hs : NoSl i) : FE X W (.Subscript o i pos) (sDix f g) :=
  ⟨PE.imp (pe_dget (by omega) ho.px hi.pe hs) fun σ H Q ⟨Z, ρ, e, q⟩ => by
    refine tX.first e q fun ds r1 q1 a kvs H1 s1 rd rk => ?_
    refine tF.first (e.up s1) (q1.up s1) fun kd r2 q2 y H2 s2 p2 => ?_
    obtain ⟨d, r3, q3⟩ := (q2.up s2).nox_of
    unfold dGetR at r3
    cases hk : keyOf kd with
    | none => rw [hk] at r3; cases r3
    | some k =>
      rw [hk] at r3
      obtain ⟨rfl, rfl⟩ := key_of_d p2 hk
      rcases (rk.up (Same.cut s2)).look k with ⟨_, h2⟩ | ⟨v, d', h1, h2, h3⟩
      · rw [h2] at r3; cases r3
      · rw [h2] at r3; cases r3
        exact ⟨a, v, rfl, .inl ⟨kvs, k, rd H2 s2, rfl, h1.symm⟩, q3 _ _ (Same.refl _) h3⟩⟩
/-- d.get(k, x) -/
def dGet2R (ds : List (D × D)) (k x : D) : R D := match keyOf k with
  | some _ => match dLook ds k with
    | some d => .ok d
    | none => .ok x
  | none => .bad
@[simp] def sGet2 (f : Env → R (List (D × D))) (g h : Env → R D) : Env → R D := fun ρ => (f ρ).bind fun ds => (g ρ).bind fun k => (h ρ).bind fun x => (dGet2R ds k x).nox
theorem fe_get2 {o e1 e2 : Expr} {f : Env → R (List (D × D))} {g h : Env → R D} {apos cpos : Pos} (hu : X.A.units + 80 < cLine) (ho : FX X W o f) (he : FE X W e1 g) (hf : FE X W e2 h)
    (hb : attributeBase o "get" X.env (eval o X.env) = eval o X.env := by rfl)
    (hw : ((backTo cpos (starEach [e1, e2] X.env)).all (fun x => !x.1) && (backToKw cpos (keywordEach [] X.env)).all (fun x => x.1.isSome)
      && decide (([e1, e2] : List Expr).length + ([] : List Keyword).length + (if ([] : List Keyword).isEmpty then 0 else 1) < 30)) = true := by rfl)
    (hl : (apos.endLine == cpos.line) = true := by rfl) (ht : backTo cpos (starEach [e1, e2] X.env) = [(false, eval e1 X.env), (false, eval e2 X.env)] := by rfl) :
    FE X W (.Call (.Attribute o "get" apos) [e1, e2] [] cpos) (sGet2 f g h) :=
  ⟨PE.imp (pe_dget2 (by omega) ho.px he.pe hf.pe ⟨hb, hw, hl, ht⟩) fun σ H Q ⟨Z, ρ, e, q⟩ => by
    refine tX.first e q fun ds r1 q1 a kvs H1 s1 rd rk => ⟨a, rfl, .inl ⟨kvs, rd H1 (Same.refl H1)⟩, ?_⟩
    refine tF.first (e.up s1) (q1.up s1) fun kd r2 q2 y H2 s2 p2 => ?_
    refine tF.first (e.up (s1.trans s2)) (q2.up s2) fun xd r3 q3 z H3 s3 p3 => ?_
    obtain ⟨d, r4, q4⟩ := (q3.up s3).nox_of
    unfold dGet2R at r4
    cases hk : keyOf kd with
    | none => rw [hk] at r4; cases r4
    | some k =>
      rw [hk] at r4
      obtain ⟨rfl, rfl⟩ := key_of_d p2 hk
      rcases (rk.up (Same.cut (s2.trans s3))).look k with ⟨h1, h2⟩ | ⟨v, d', h1, h2, h3⟩
      · rw [h2] at r4; cases r4
        exact ⟨none, .inl ⟨kvs, k, rd H3 (s2.trans s3), rfl, h1.symm⟩, q4 _ _ (Same.refl _) p3⟩
      · rw [h2] at r4; cases r4
        exact ⟨some v, .inl ⟨kvs, k, rd H3 (s2.trans s3), rfl, h1.symm⟩, q4 _ _ (Same.refl _) h3⟩⟩

/-! ### new dicts -/
@[simp] def sD0 : Env → R (List (D × D)) := fun _ => .ok []
theorem fd_empty : FD X W (.Dict [] [] pos) sD0 := ⟨PE.imp pe_dnewK fun σ H Q ⟨Z, ρ, e, q⟩ => fun p hp => q p [] _ (Same.new hp) hp upd_same .nil⟩
/-- a new dict as a value: from now on it stays as it is -/
@[simp] def sDv (f : Env → R (List (D × D))) : Env → R D := fun ρ => (f ρ).bind fun ds => .ok (.dict ds)
theorem FD.fe {e : Expr} {f : Env → R (List (D × D))} (h : FD X W e f) : FE X W e (sDv f) := by
  refine ⟨⟨fun pins s σ H Q I ⟨Z, ρ, eo, q⟩ => ?_⟩⟩
  have hq : tD X.K X.mg W f σ H fun v H1 => ∃ p kvs ds, v = .ref p ∧ Same H H1 ∧ H p = none ∧ H1 p = some (.dK kvs) ∧ RpK X.K (cut (fun a => Z a ∨ a = p) H1) kvs ds ∧ PoE X.K X.mg W Z σ H Q (.ok (.dict ds)) := by
    refine ⟨Z, ρ, eo, ?_⟩
    rcases q.ofBind with ⟨ds, r, q⟩ | ⟨c, r, q⟩
    · rw [r]; exact fun p kvs H' s n l k => ⟨p, kvs, ds, rfl, s, n, l, k, q⟩
    · rw [r]; exact q
  refine thn (h.pe.run pins s σ H _ I hq) fun u s1 ⟨v, H1, I1, r1, p, kvs, ds, hv, sm, hn, hl, hk, q⟩ => ?_
  obtain ⟨od, I2⟩ := I1.lock hl trivial
  have s2 : Same H (upd H1 p (.frz od (.dK kvs))) := fun a o ho => by
    rw [upd_ne (ne_of_none ho hn)]; exact sm a o ho
  refine ⟨v, _, I2, r1, ?_⟩
  subst hv
  refine q _ _ s2 (.dct (cut_some.mpr ⟨eo.zd.fresh hn, upd_same⟩) (hk.up fun a o ho => ?_))
  rw [cut_some] at ho ⊢
  have hne : a ≠ p := fun z => ho.1 (.inr z)
  exact ⟨fun z => ho.1 (.inl z), by rw [upd_ne hne]; exact ho.2⟩
/-- name = a new dict, owned -/
@[simp] def sSetD (i : Nat) (f : Env → R (List (D × D))) : Env → O := fun ρ => match f ρ with
  | .ok ds => if i < ρ.length then .nx (ρ.set i (.own (.dct ds))) else .bad
  | .exc c => .ex c ρ
  | .bad => .bad
theorem setD_reads {Zc : Addr → Prop} {H0 : Hp} {E : Ends} {i : Nat} {f : Env → R (List (D × D))} (q : tS K mg W (sSetD i f) E σ H) : tAsg (tD K mg W f) (gName i) E σ H := by
  obtain ⟨Zc, H0, ρ, so, q⟩ := q
  refine ⟨_, ρ, so.e, ?_⟩
  unfold sSetD at q
  cases r : f ρ with
  | ok ds =>
    simp only [r] at q
    split at q
    · next hi => exact fun p xs H' s n l a => q _ _ (so.putN s n ⟨xs, l, a⟩ hi)
    · exact q.elim
  | exc c => simp only [r] at q; exact PoS.exc q so
  | bad => simp only [r] at q; exact q.elim
theorem fs_setD {i : Nat} {x : Str} {e : Expr} {f : Env → R (List (D × D))} {pos' : Pos} (hN : X.N.Nodup) (he : FD X W e f) (hi : X.N[i]? = some x := by rfl) (hx : Loc X.env.scope x := by exact Or.inl rfl) (hs : swapsWith e (some (.Name x pos')) pos.line X.env = pure false := by rfl) (hf : X.fn x = true ∨ X.env.scope.names.lookup x = some .local := by first | exact .inl rfl | exact .inr rfl | assumption) :
    FS X W (.Assign [.Name x pos'] e pos) (sSetD i f) := ⟨PS.imp (ps_set hN hi hx he.pe hs hf) fun E σ H q => setD_reads (Zc := fun _ => False) (H0 := H) q⟩
/-- d[k] = e -/
def dsOf (ρ : Env) (i : Nat) : Option (List (D × D)) := match ρ.getD i .no with
  | .own (.dct ds) => some ds
  | _ => none
theorem dsOf_some {ρ : Env} {i : Nat} {ds : List (D × D)} (h : dsOf ρ i = some ds) : ρ[i]? = some (.own (.dct ds)) := by
  unfold dsOf at h
  split at h
  · next e he => cases h; exact getD_of (by simp) he
  · cases h
def sPutD (m : Bool) (i : Nat) (f g : Env → R D) : Env → O := fun ρ => match dsOf ρ i with
  | some ds => thenS (evm m f ρ) ρ fun d => thenS (evm false g ρ) ρ fun k => match keyOf k with
    | some _ => if ds.length < sizeLine then .nx (ρ.set i (.own (.dct (dPutD ds k d)))) else .bad
    | none => .bad
  | none => .bad
theorem fs_putD (m : Bool) {i : Nat} {x : Str} {e k : Expr} {f g : Env → R D} {p tpos : Pos} (hu : X.A.units + 80 < cLine) (he : FE X W e f) (hk : FE X W k g) (hN : X.N[i]? = some x := by rfl) (hv : Vis X.env.scope x := by first | exact Or.inl rfl | exact Or.inr (Or.inl rfl) | exact Or.inr (Or.inr rfl))
    (hd : (x == ("__debug__" : Str)) = false := by decide) (hcd : (x == ("__classdict__" : Str)) = false := by decide)
    (hs : swapsWith e (some (.Subscript (.Name x p) k tpos)) pos.line X.env = pure false := by rfl) : FS X W (.Assign [.Subscript (.Name x p) k tpos] e pos) (sPutD m i f g) :=
  ⟨PS.imp (ps_dput (by omega) (pe_var hN hv hd hcd) hk.pe he.pe hs) fun E σ H ⟨Zc, H0, ρ, so, q⟩ => by
    unfold sPutD at q
    cases hl : dsOf ρ i with
    | none => rw [hl] at q; exact q.elim
    | some ds =>
      rw [hl] at q
      have hi := dsOf_some hl
      refine ev_then (m := m) so q fun d v H' r q s p => ?_
      have so1 := so.up s
      obtain ⟨a, h1, h2, kvs, h3, h4⟩ := so1.own i _ hi
      refine ⟨_, h1, ev_then (m := false) so1 q fun kd kv H2 r2 q2 s2 p2 => ?_⟩
      cases hk : keyOf kd with
      | none => rw [hk] at q2; exact q2.elim
      | some k =>
        rw [hk] at q2
        simp only at q2
        by_cases hz : ds.length < sizeLine
        · rw [if_pos hz] at q2
          obtain ⟨rfl, rfl⟩ := key_of_d p2 hk
          refine ⟨a, _, rfl, .inl ⟨kvs, k, s2 _ _ h3, rfl, by rw [h4.length]; exact hz, rfl⟩, q2 _ _ ((so1.up s2).writeN hi h1 ⟨_, upd_same, ?_⟩)⟩
          exact (h4.up (Same.cut s2)).put (p.up (Same.cut s2))
        · rw [if_neg hz] at q2; exact q2.elim⟩
/-- from now on the dict stays as it is: it becomes a value -/
def frzD (i : Nat) (ρ : Env) : Env := match ρ.getD i .no with
  | .own (.dct ds) => ρ.set i (.val (.dict ds))
  | _ => ρ
theorem fs_frzD (i : Nat) {st : Stmt} {f : Env → O} (h : FS X W st f) : FS X W st (fun ρ => f (frzD i ρ)) := by
  refine ⟨⟨fun pins s σ H E I ⟨Zc, H0, ρ, so, q⟩ => ?_⟩⟩
  have q : PoS X.K X.mg W Zc H0 E (f (frzD i ρ)) := q
  unfold frzD at q
  split at q
  · next ds hd =>
    have hi := getD_of (by simp) hd
    have hil : i < ρ.length := (List.getElem?_eq_some_iff.mp hi).1
    obtain ⟨a, h1, h2, kvs, h3, h4⟩ := so.own i _ hi
    obtain ⟨od, I2⟩ := I.lock h3 trivial
    refine h.ps.run pins s σ _ E I2 ⟨Zc, H0, _, ?_, q⟩
    have ow : ∀ (j : Nat) (o : Own), (ρ.set i (.val (.dict ds)))[j]? = some (.own o) → ρ[j]? = some (.own o) ∧ i ≠ j := fun j o h => set_own (x := .val _) (fun _ e => by cases e) h
    have sub : ∀ b, ZA Zc σ (ρ.set i (.val (.dict ds))) b → ZA Zc σ ρ b := fun b h => by
      rcases h with h | ⟨j, o, k1, k2⟩
      · exact .inl h
      · exact .inr ⟨j, o, (ow j o k1).1, k2⟩
    have na : ¬ ZA Zc σ (ρ.set i (.val (.dict ds))) a := fun h => by
      rcases h with h | ⟨j, o, k1, k2⟩
      · exact so.nz h2 h
      · obtain ⟨k3, k4⟩ := ow j o k1
        exact k4 (so.inj i j _ o a hi k3 h1 k2)
    have za : ZA Zc σ ρ a := .inr ⟨i, _, hi, h1⟩
    have sc : Same (cut (ZA Zc σ ρ) H) (cut (ZA Zc σ (ρ.set i (.val (.dict ds)))) (upd H a (.frz od (.dK kvs)))) := fun b u hb => by
      rw [cut_some] at hb ⊢
      have hne : b ≠ a := fun z => hb.1 (by rw [z]; exact za)
      exact ⟨fun z => hb.1 (sub b z), by rw [upd_ne hne]; exact hb.2⟩
    have ownP : ∀ (j : Nat) (o : Own), (ρ.set i (.val (.dict ds)))[j]? = some (.own o) → ∃ b, σ[j]? = some (some (.ref b)) ∧ H0 b = none ∧ OwnAt X.K (cut (ZA Zc σ (ρ.set i (.val (.dict ds)))) (upd H a (.frz od (.dK kvs)))) (upd H a (.frz od (.dK kvs))) b o := fun j o hj => by
      obtain ⟨k1, k2⟩ := ow j o hj
      obtain ⟨b, m1, m2, m3⟩ := so.own j o k1
      have hne : b ≠ a := fun z => k2 (so.inj i j _ o a hi k1 h1 (by rw [← z]; exact m1))
      refine ⟨b, m1, m2, ?_⟩
      cases o with
      | lst es => obtain ⟨zs, z1, z2⟩ := m3; exact ⟨zs, by rw [upd_ne hne]; exact z1, z2.up sc⟩
      | dct es => obtain ⟨zs, z1, z2⟩ := m3; exact ⟨zs, by rw [upd_ne hne]; exact z1, z2.up sc⟩
    refine ⟨fun b u hb => by rw [upd_ne (ne_of_none hb h2)]; exact so.same b u hb, so.zc, ⟨by rw [List.length_set]; exact so.e.len, fun b hb => ?_, fun j d hj => ?_, fun j ns hj => ?_, fun j o hj => let ⟨b, m1, _, m3⟩ := ownP j o hj; ⟨b, m1, m3⟩⟩, ownP, fun j k o o' b k1 k2 k3 k4 => so.inj j k o o' b (ow j o k1).1 (ow k o' k2).1 k3 k4⟩
    · by_cases e : b = a
      · exact ⟨_, by rw [e]; exact upd_same⟩
      · obtain ⟨u, hu⟩ := so.e.zd b (sub b hb)
        exact ⟨u, by rw [upd_ne e]; exact hu⟩
    · by_cases e : i = j
      · subst e
        rw [List.getElem?_set_self hil] at hj
        cases hj
        exact ⟨_, h1, .dct (cut_some.mpr ⟨na, upd_same⟩) (h4.up sc)⟩
      · rw [List.getElem?_set_ne e] at hj
        obtain ⟨v, m1, m2⟩ := so.e.val j d hj
        exact ⟨v, m1, m2.up sc⟩
    · by_cases e : i = j
      · subst e
        rw [List.getElem?_set_self hil] at hj; cases hj
      · rw [List.getElem?_set_ne e] at hj
        obtain ⟨b, m1, m2⟩ := so.e.raw j ns hj
        exact ⟨b, m1, SqL.same m2 sc⟩
  · exact h.ps.run pins s σ H E I ⟨Zc, H0, ρ, so, q⟩

/-! ### walking a dict's keys -/
def keysOf : List (D × D) → List D := fun ds => ds.map (·.1)
def itemsOfD : D → R (List D)
  | .dict ds => .ok (keysOf ds)
  | _ => .bad
@[simp] def sItD (f : Env → R D) : Env → R (List D) := fun ρ => (f ρ).bind itemsOfD
theorem fi_keys {tg e : Expr} {f : Env → R D} (h : FE X W e f) : FI X W tg e true (sItD f) :=
  ⟨PI.imp (pi_keys h.pe) fun σ H Q ⟨Z, ρ, eo, q⟩ => by
    refine ⟨Z, ρ, eo, ?_⟩
    rcases q.ofBind with ⟨d, r, q⟩ | ⟨c, r, q⟩
    · rw [r]
      intro v H1 s1 p
      cases p with
      | @dct a o kvs ds h1 h2 =>
        refine ⟨a, o, rfl, .inl ⟨kvs, (cut_some.mp h1).2, q _ _ s1 ?_⟩⟩
        unfold keysOf
        rw [List.length_map, ← h2.length]
        refine walk_keys.mono (fun H2 g => g _ _ h1) fun i H2 x H3 hi _ y => ?_
        obtain ⟨rfl, k, v, hk, rfl⟩ := y
        obtain ⟨d, hd, pd⟩ := h2.get hk
        refine ⟨keyD k, by rw [List.getElem?_map, hd]; rfl, Same.refl _, fun Z' _ s => ?_⟩
        cases k with
        | inl i => exact .int i
        | inr x => exact .str x
      | _ => exact q.elim
    · rw [r]; exact q⟩
end
end PL

set_option Elab.async false
set_option linter.all false
set_option autoImplicit false
set_option maxRecDepth 100000
/-! PL19: sorted(dict), dict(pairs) -/
namespace PL
open PySem PySem.Spec PySem.SeqAt PyProof.Rows L2
section
variable {X : Cx} {W : WX} {K : PySem.W.Frag}
def bSortedD : List D → R (List D)
  | [.dict ds] => if sortOk (keysOf ds) then .ok (sortD (keysOf ds)) else .bad
  | xs => bSorted xs
/-- values that read as keys -/
theorem vals_keys {P : Program} {w : World} : ∀ {kvs : List (Key × V)} {vs : List (Key × Value)} {l : List Value}, KV kvs vs → l.length = vs.length → (∀ (j : Nat) (v : Value), l[j]? = some v → ∃ k x, vs[j]? = some (k, x) ∧ (mixKind P w).is k v = true) → Vals (kvs.map fun kv => kV kv.1) l
  | _, _, l, .nil, hl, _ => by
    have : l = [] := List.eq_nil_of_length_eq_zero (by simpa using hl)
    subst this
    exact .nil
  | _, _, [], .cons _ _, hl, _ => by simp at hl
  | _, _, v :: l, .cons (a := a) (b := b) r t, hl, hk => by
    rw [List.map_cons]
    refine .cons ?_ (vals_keys (P := P) (w := w) t (by simpa using hl) fun j u hj => ?_)
    · obtain ⟨k, x, e, h⟩ := hk 0 v rfl
      simp at e
      rw [r.1, e]
      exact relV_key h
    · obtain ⟨k, x, e, h⟩ := hk (j + 1) u (by simpa using hj)
      exact ⟨k, x, by simpa using e, h⟩
open PySem.W in
theorem cr_bSortedD (hc : X.calm = true) (hu : X.A.units + 80 < cLine) : CallR X (.builtin "sorted") (rNC X.K bSortedD) := by
  intro pins s σ H vs us Q I r q
  obtain ⟨Z, ds, z, ps, q⟩ := q
  by_cases hd : ∃ kds, ds = [.dict kds]
  · obtain ⟨kds, rfl⟩ := hd
    cases ps with
    | cons p1 p2 =>
      cases p2
      obtain ⟨u, rfl, ru⟩ := vals1 r
      cases p1 with
      | @dct a o kvs _ h1 h2 =>
        cases ru
        simp only [bSortedD] at q
        by_cases c : sortOk (keysOf kds) = true
        · rw [if_pos c] at q
          simp only at q
          obtain ⟨hs, hgd, hx, es, ep, ws, hdt, hsz, kv, hm⟩ := I.frzK (cut_some.mp h1).2
          have hlen : ws.length = kvs.length := (KV.length kv).symm
          obtain ⟨c1, c2, c3, c4, c5⟩ := sortOk_of c
          have hkl : (keysOf kds).length = kvs.length := by unfold keysOf; rw [List.length_map, h2.length]
          have hn : ws.length ≤ sizeLine := by rw [hlen, ← hkl]; exact c4
          refine Calls.call_function_entry kind_sorted plain_sorted entry_sorted (args_sorted1 _) ?_
          unfold Builtin.«sorted»
          refine wpAny_bind (m := checkCount "sorted" 1 1 _) (wpAny_pure ?_)
          refine wpAny_bind (kdu_collect (kdl_dict hs) (I.ok.hd hc) hm hn fun h' tk acc hk hacc => ?_)
          have hal : acc.toList.length = ws.length := by rw [Array.length_toList]; exact hacc.1
          have vv : Vals (kvs.map fun kv => kV kv.1) acc.toList := vals_keys kv hal fun j v hj => hacc.2 j v (by rw [← Array.getElem?_toList]; exact hj)
          have hr : RpA X.K (cut Z H) (kvs.map fun kv => kV kv.1) (keysOf kds) := h2.keys
          have hr0 : RpA X.K H (kvs.map fun kv => kV kv.1) (keysOf kds) := hr.up Same.uncut
          have I1 : Inv X pins σ H { s with heap := h', toks := tk } := I.kept hk
          obtain ⟨as, rd⟩ := Dp.readsAll I1 _ _ acc.toList (RpA.dp hr0 c5) vv
          have hL : acc.toList.length ≤ sizeLine := by rw [hal]; exact hn
          refine wpAny_bind (wpAny_newList ?_ hL)
          show wpAny _ _ _ _ _ { s with heap := h'.push (seqObj "list" acc.toList.toArray 0), toks := tk }
          have hat : (h'.push (seqObj "list" acc.toList.toArray 0)).get? h'.objs.size = some (seqObj "list" acc.toList.toArray 0) := Heap.get?_push_size _ rfl
          have hl : (kvs.map fun kv => kV kv.1).length = (keysOf kds).length := hr0.length
          have e1 := each_zip hr vv
          have old : ∀ b ob, h'.get? b = some ob → (sortingHeap (h'.push (seqObj "list" acc.toList.toArray 0)) h'.objs.size acc.toList).get? b = some ob := fun b ob e =>
            sortingHeap_old (Nat.ne_of_lt (Heap.lt_size e)) (Heap.get?_push_of_some _ e)
          have e2 : EachIs (fun (v : Value) (p : V × D) => ∃ as, Reads (sortingHeap (h'.push (seqObj "list" acc.toList.toArray 0)) h'.objs.size acc.toList) v p.2 as) acc.toList ((kvs.map fun kv => kV kv.1).zip (keysOf kds)) :=
            (each_reads (h := h') hl rd).mono fun _ _ ⟨as, r⟩ => ⟨as, PyProof.Rows.Reads.keeps old r⟩
          have zs := zip_snd hl
          have zl : ((kvs.map fun kv => kV kv.1).zip (keysOf kds)).length = acc.toList.length := by rw [List.length_zip, hl, Nat.min_self, ← hl, List.length_map, ← hlen, hal]
          have al : AllAlike (((kvs.map fun kv => kV kv.1).zip (keysOf kds)).map (·.2)) := by rw [zs]; exact c1
          have so : Sortable (((kvs.map fun kv => kV kv.1).zip (keysOf kds)).map (·.2)) := by rw [zs]; exact c2
          have bnd : ∀ b, b ∈ ((kvs.map fun kv => kV kv.1).zip (keysOf kds)) → X.A.units + 2 + b.2.depth < cLine := fun b hb => by
            have : b.2 ∈ keysOf kds := by rw [← zs]; exact List.mem_map.mpr ⟨b, hb, rfl⟩
            have := depthAll_mem this
            omega
          refine wpAny_bind (wpAny_holding (wpAny_call_entry slot_list_sort ⟨_, hat, rfl⟩ entry_list_sort ?body (args_list_sort _)))
          case body =>
            show wpAny (model X.prog X.w) X.A.in1.in1 (Builtin.«list.sort» ⟨[.ref h'.objs.size], []⟩) _ _ _
            refine wpAny_mono (list_sort_vals (s := { s with heap := h'.push (seqObj "list" acc.toList.toArray 0), toks := tk }) (κ := dataKind (sortingHeap (h'.push (seqObj "list" acc.toList.toArray 0)) h'.objs.size acc.toList) (((kvs.map fun kv => kV kv.1).zip (keysOf kds)).map (·.2)))
              (P := fun f s' => f = .done (.ret .none) ∧ EP X pins σ Q (.ref h'.objs.size) s') hat
              (SortsAt.data (s := { s with heap := sortingHeap (h'.push (seqObj "list" acc.toList.toArray 0)) h'.objs.size acc.toList, toks := tk }) (each_map (R := fun v d => ∃ as, Reads (sortingHeap (h'.push (seqObj "list" acc.toList.toArray 0)) h'.objs.size acc.toList) v d as) (fun p : V × D => p.2) e2) al so (bound_map bnd)) hL
              ⟨rfl, ?_⟩) (fun f s' hf => ?_) fun _ _ e => e
            · have ho := sortVals_data (enc := fun p : V × D => p.2) false e1 e2 al
              obtain ⟨k1, k2⟩ := each_vals ho
              have em : (((kvs.map fun kv => kV kv.1).zip (keysOf kds)).mergeSort (PySem.W.dataLe false (·.2))).map (·.2) = sortD (keysOf kds) := by
                unfold sortD
                exact (List.map_mergeSort (r := PySem.W.dataLe false fun p : V × D => p.2) (s := PySem.W.dataLe false id) (f := fun p : V × D => p.2) (fun a _ b _ => rfl)).trans (by rw [zs])
              rw [em] at k2
              obtain ⟨n2, he'⟩ := PyProof.Rows.sortedHeap_at (out := (sortVals (dataKind (sortingHeap (h'.push (seqObj "list" acc.toList.toArray 0)) h'.objs.size acc.toList) (((kvs.map fun kv => kV kv.1).zip (keysOf kds)).map (·.2))) false acc.toList acc.toList).toArray) hat
              have hf : H h'.objs.size = none := I1.hok.fresh (Nat.le_refl _)
              have hlen2 : ((((kvs.map fun kv => kV kv.1).zip (keysOf kds)).mergeSort (PySem.W.dataLe false (·.2))).map (·.1)).length ≤ sizeLine := by
                rw [List.length_map, List.length_mergeSort, zl]; exact hL
              refine ⟨.ref _, upd H h'.objs.size (.lst _), I1.laid (t' := tk) (fun b ob e => ?_) (Nat.le_refl _) ⟨hlen2, _, n2, k1, he'⟩, rfl, q _ _ _ (Same.new hf) hf upd_same (rep_new hf k2)⟩
              have hlt := Heap.lt_size e
              rw [PyProof.Rows.sortedHeap_old (Nat.ne_of_lt hlt) (by rw [Heap.size_push]; exact Nat.lt_succ_of_lt hlt)]
              exact Heap.get?_push_of_some _ e
            · obtain ⟨rfl, hq⟩ := hf
              exact ⟨_, rfl, wpAny_pure ⟨_, rfl, hq⟩⟩
        · rw [if_neg c] at q; exact q.elim
  · have e : bSortedD ds = bSorted ds := by
      unfold bSortedD
      split
      · next kds => exact absurd ⟨kds, rfl⟩ hd
      · rfl
    rw [e] at q
    exact cr_bSorted hu pins s σ H vs us Q I r ⟨Z, ds, z, ps, q⟩
end
end PL

set_option Elab.async false
set_option linter.all false
set_option autoImplicit false
set_option maxRecDepth 100000
/-! PL20: dict(pairs), len(dict) -/
namespace PL
open PySem PySem.Spec PyProof.Rows L2
def asPair : D → Option (D × D)
  | .tuple [k, v] => match keyOf k with
    | some _ => some (k, v)
    | none => none
  | _ => none
def asPairs : List D → Option (List (D × D))
  | [] => some []
  | d :: ds => match asPair d, asPairs ds with
    | some p, some r => some (p :: r)
    | _, _ => none
theorem asPair_some {d : D} {p : D × D} (h : asPair d = some p) : d = .tuple [p.1, p.2] ∧ ∃ k, keyOf p.1 = some k := by
  match d, h with
  | .tuple [k, v], h =>
    simp only [asPair] at h
    cases hk : keyOf k with
    | none => rw [hk] at h; cases h
    | some ky => rw [hk] at h; cases h; exact ⟨rfl, ky, hk⟩
  | .tuple [], h => cases h
  | .tuple [_], h => cases h
  | .tuple (_ :: _ :: _ :: _), h => cases h
  | .none, h => cases h
  | .bool _, h => cases h
  | .int _, h => cases h
  | .str _, h => cases h
  | .list _, h => cases h
  | .dict _, h => cases h
def mergeD (acc : List (D × D)) (kds : List (D × D)) : List (D × D) := kds.foldl (fun acc p => dPutD acc p.1 p.2) acc
def bDict : List D → R (List (D × D))
  | [d] => match seqOf d with
    | some ds => match asPairs ds with
      | some kds => if smallLen ds.length then .ok (mergeD [] kds) else .bad
      | none => .bad
    | none => match d with
      | .dict kds => .ok kds
      | _ => .bad
  | _ => .bad
section
variable {X : Cx} {W : WX} {K : PySem.W.Frag} {H : Hp} {Z : Addr → Prop}
theorem RpK.merge : ∀ {kvs : List (Key × V)} {kds : List (D × D)} {acc : List (Key × V)} {accd : List (D × D)}, RpK K H kvs kds → RpK K H acc accd → RpK K H (mergeK acc kvs) (mergeD accd kds)
  | _, _, _, _, .nil, h => h
  | _, _, acc, accd, .cons (k := k) (v := v) (kvs := kvs) (d := d) (ds := ds) h1 h2, h =>
    (show RpK K H (mergeK (putK acc k v) kvs) (mergeD (dPutD accd (keyD k) d) ds) from RpK.merge h2 (h.put h1))
theorem pairs_rep : ∀ {ds : List D} {kds : List (D × D)} {vs : List V}, asPairs ds = some kds → RpA K (cut Z H) vs ds → ∃ (as : List Addr) (kvs : List (Key × V)), vs = as.map V.ref ∧ RpK K (cut Z H) kvs kds ∧ Paired (fun p kv => SqT K H p [kV kv.1, kv.2]) as kvs
  | [], kds, vs, h, r => by
    cases h; cases r
    exact ⟨[], [], rfl, .nil, .nil⟩
  | d :: ds, kds, vs, h, r => by
    simp only [asPairs] at h
    cases hp : asPair d with
    | none => rw [hp] at h; cases h
    | some p =>
      cases hr : asPairs ds with
      | none => rw [hp, hr] at h; cases h
      | some rest =>
        rw [hp, hr] at h
        cases h
        obtain ⟨e, ky, hk⟩ := asPair_some hp
        subst e
        cases r with
        | cons p1 p2 =>
          obtain ⟨as, kvs, e1, e2, e3⟩ := pairs_rep hr p2
          obtain ⟨k, v⟩ := p
          cases p1 with
          | tup ht ha =>
            cases ha with
            | cons q1 q' =>
              cases q' with
              | cons q2 q'' =>
                cases q''
                obtain ⟨e4, e5⟩ := key_of_d q1 hk
                have e6 : k = keyD ky := e5
                clear e5
                subst e4
                subst e6
                exact ⟨_ :: as, (ky, _) :: kvs, by rw [e1]; rfl, .cons q2 e2, .cons (SqT.same ht.sqT Same.uncut) e3⟩
theorem mk_ps {R : Nat → Value × Value → Prop} : ∀ (n : Nat), (∀ j, j < n → ∃ p, R j p) → ∃ ps : List (Value × Value), ps.length = n ∧ ∀ (j : Nat) p, ps[j]? = some p → R j p
  | 0, _ => ⟨[], rfl, fun j p e => by simp at e⟩
  | n + 1, h => by
    obtain ⟨ps, e1, e2⟩ := mk_ps n fun j hj => h j (by omega)
    obtain ⟨p, hp⟩ := h n (by omega)
    refine ⟨ps ++ [p], by simp [e1], fun j q e => ?_⟩
    rw [List.getElem?_append] at e
    split at e
    · exact e2 j q e
    · next hj =>
      have : j = n := by
        have hl : j - ps.length < 1 := by
          have := (List.getElem?_eq_some_iff.mp e).1
          simpa using this
        omega
      subst this
      rw [e1] at e
      simp at e
      subst e
      exact hp
/-- a built-in type that makes a new dict -/
def rDN (K : PySem.W.Frag) (g : List D → R (List (D × D))) : List V → Hp → VK → Prop := fun xs H Q => ∃ Z ds, ZD Z H ∧ RpA K (cut Z H) xs ds ∧ match g ds with
  | .ok es => ∀ p kvs H', Same H H' → H p = none → H' p = some (.dK kvs) → RpK K (cut (fun a => Z a ∨ a = p) H') kvs es → Q (.ref p) H'
  | _ => False
theorem rep_newK {kvs : List (Key × V)} {ds : List (D × D)} {p : Addr} {o : HO} (hn : H p = none) (h : RpK K (cut Z H) kvs ds) : RpK K (cut (fun a => Z a ∨ a = p) (upd H p o)) kvs ds := h.up fun a u e => by
  rw [cut_some] at e ⊢
  have hne : a ≠ p := ne_of_none e.2 hn
  exact ⟨fun z => z.elim e.1 hne, by rw [upd_ne hne]; exact e.2⟩
theorem cr_bDict (hc : X.calm = true) : CallR X (.type "dict") (rDN X.K bDict) := by
  intro pins s σ H vs us Q I r q
  obtain ⟨Z, ds, z, ps, q⟩ := q
  match ds, ps, q with
  | [], _, q => exact (show False from q).elim
  | _ :: _ :: _, _, q => exact (show False from q).elim
  | [d], .cons p1 .nil, q =>
    obtain ⟨u, rfl, ru⟩ := vals1 r
    simp only [bDict] at q
    cases e : seqOf d with
    | none =>
      rw [e] at q
      simp only at q
      cases p1 with
      | @dct a o kvs kds h1 h2 =>
        cases ru
        exact d_copyOf I (.inr ⟨o, (cut_some.mp h1).2⟩) fun p s' hp I' => ⟨.ref p, _, I', rfl, q p kvs _ (Same.new hp) hp upd_same (rep_newK hp h2)⟩
      | _ => exact (show False from q).elim
    | some xs =>
      rw [e] at q
      simp only at q
      cases ep : asPairs xs with
      | none => rw [ep] at q; exact (show False from q).elim
      | some kds =>
        rw [ep] at q
        simp only at q
        by_cases hz : smallLen xs.length = true
        · rw [if_pos hz] at q
          simp only at q
          obtain ⟨a, ws, its, rfl, rfl, p2, vv, hzl, _, hd⟩ := seq_read I p1 ru e
          obtain ⟨as, kvs, e1, e2, e3⟩ := pairs_rep ep p2
          subst e1
          have ei := refs_at vv
          subst ei
          obtain ⟨prs, rel, hl, hpr⟩ := pairs_of I e3
          obtain ⟨ps', pl, pp⟩ := mk_ps (R := fun j p => ∃ (k : Key) (b : Addr), prs[j]? = some (k, p.2) ∧ as[j]? = some b ∧ IsTup s.heap b #[p.1, p.2] ∧ keyIs k p.1 = true) prs.length fun j hj => by
            obtain ⟨b, u, h1, h2, h3⟩ := hpr j prs[j] (List.getElem?_eq_getElem hj)
            exact ⟨(u, prs[j].2), prs[j].1, b, by rw [List.getElem?_eq_getElem hj], h1, h2, h3⟩
          have items : PairItems s.heap (as.map Value.ref).toArray (fun j => as.getD j 0) ps' := ⟨by simp [pl, hl], fun j k v hj => by
            obtain ⟨ky, b, h1, h2, h3, h4⟩ := pp j _ hj
            have hb : as.getD j 0 = b := by rw [List.getD_eq_getElem?_getD, h2]; rfl
            refine ⟨by simp [h2, hb], ?_⟩
            show PairAt s.heap (as.getD j 0) k v
            rw [hb]
            exact .inl (show s.heap.IsTuple b _ from h3)⟩
          have hh := I.ok.hd hc
          have nz : ps'.length ≤ sizeLine := by rw [pl, hl]; rw [List.length_map] at hzl; exact hzl
          have hv : PairsHave (mixKind X.prog X.w) ps'.length (PairRel ps') prs := ⟨pl.symm, fun i key v hi => by
            obtain ⟨ky, b, h1, h2, h3, h4⟩ := pp i _ hi
            exact ⟨ky, h1, h4⟩⟩
          have fin : ∀ h' tk, h'.DictOf (mixKind X.prog X.w) s.heap.objs.size (merged [] prs) → (∀ b o, b ∉ ([] : List Addr) → s.heap.get? b = some o → h'.get? b = some o) → EP X pins σ Q (.ref s.heap.objs.size) { s with heap := h', toks := tk } := fun h' tk hd' k => by
            have hm : (s.heap.objs.size == sysModules) = false := beq_eq_false_iff_ne.mpr (Nat.ne_of_gt I.big)
            have hlen : (mergeK [] kvs).length ≤ sizeLine := by
              refine Nat.le_trans (length_mergeK kvs []) ?_
              have := KV.length rel
              rw [List.length_nil, Nat.zero_add, this, ← pl]
              exact nz
            have hn := I.hok.fresh (Nat.le_refl s.heap.objs.size)
            exact ⟨.ref s.heap.objs.size, upd H s.heap.objs.size (.dK (mergeK [] kvs)), I.laid (t' := tk) (fun b o ho => k b o (by simp) ho) (Nat.le_refl _) (show ObjOk X.prog X.w _ _ _ (.dK (mergeK [] kvs)) from ⟨hlen, hm, merged [] prs, KV.merge rel .nil, hd'⟩), rfl,
              q _ _ _ (Same.new hn) hn upd_same (rep_newK hn (RpK.merge e2 .nil))⟩
          rcases hd with ⟨_, ⟨o, ho, hcl, n, hdat⟩, hq⟩ | ⟨_, ⟨o, ho, hcl, n, hdat⟩, hq⟩
          · obtain ⟨its2, r2, ⟨o2, n2, ho2, hc2, hd2, hdat2⟩, _⟩ := I.list hq
            rw [ho] at ho2; cases ho2
            exact PySem.call_dict_pairs (PairArg.list a _ _ ps') hh ⟨⟨o, n, ho, hcl, hd2, hdat⟩, items⟩ hv nz fin
          · have hsd := p1
            have hdn : o.dict = none := by
              cases p1 with
              | @tup _ _ _ ht ha =>
                rcases SqD.same ht Same.uncut with ⟨o', h', hdd⟩ | ⟨o', its', n', h', c', hdd, _⟩
                · obtain ⟨e', _⟩ := I.hok _ _ h'
                  rw [ho] at e'; cases e'; exact hdd
                · have := I.kIn _ o' h'
                  rw [ho] at this; cases this; exact hdd
              | lst h1 h2 =>
                obtain ⟨its2, r2, ⟨o2, n2, ho2, hc2, hd2, hdat2⟩, _⟩ := I.list (SqL.of (cut_some.mp h1).2)
                rw [ho] at ho2; cases ho2; exact hd2
              | dct h1 h2 => cases e
            exact PySem.call_dict_pairs (PairArg.tuple a _ _ ps') hh ⟨⟨o, n, ho, hcl, hdn, hdat⟩, items⟩ hv nz fin
        · rw [if_neg hz] at q; exact q.elim
@[simp] def sCd (F : List D → R (List (D × D))) (g : Env → R (List D)) : Env → R (List (D × D)) := fun ρ => (g ρ).bind F
theorem cd_reads {mg : Str → Option Value} {σ : L2.St} {F : List D → R (List (D × D))} {g : Env → R (List D)} {Q : VK} (hF : ∀ ds c, F ds ≠ .exc c) (q : tD K mg W (sCd F g) σ H Q) : tCB (rDN K F) (tA K mg W g) σ H Q := by
  obtain ⟨Z, ρ, e, q⟩ := q
  refine ⟨Z, ρ, e, ?_⟩
  rcases q.ofBind with ⟨ds, r, q⟩ | ⟨c, r, q⟩
  · rw [r]
    intro vs H1 s1 p1
    refine ⟨Z, ds, (e.up s1).zd, p1, ?_⟩
    cases h : F ds with
    | ok d => rw [h] at q; exact fun p kvs H' s n => q p kvs H' (s1.trans s) (s1.free n)
    | exc c => exact absurd h (hF ds c)
    | bad => rw [h] at q; exact q
  · rw [r]; exact q
theorem bDict_noexc : ∀ ds c, bDict ds ≠ .exc c := fun ds c h => by
  unfold bDict at h
  repeat (first | (split at h) | (cases h))
theorem fd_dict {e : Expr} {es : List Expr} {g : Env → R (List D)} {x : Str} {p pos : Pos} (hc : X.calm = true) (hg : Gl X x) (hm : X.mg x = none) (hv : bootBuiltins x = some (.type "dict")) (ha : FA X W (e :: es) g) (hn : x ≠ "__name__" := by decide) (hdb : (x == ("__debug__" : Str)) = false := by decide)
    (he : starEach (e :: es) X.env = (false, eval e X.env) :: starEach es X.env := by rfl) (hpl : (backTo pos (starEach es X.env)).any (·.1) = false := by rfl) : FD X W (.Call (.Name x p) (e :: es) [] pos) (sCd bDict g) :=
  ⟨PE.imp (pe_callTy (cr_bDict hc) hg hm hv ha.pa hn hdb he hpl) fun _ _ _ q => cd_reads bDict_noexc q⟩
end
end PL

set_option maxHeartbeats 0
namespace K62
open PySem PySem.Spec PyProof.Rows L2 PL

def top (i : Nat) : Stmt := PySem.Challenge.pw_rigwright_k62_whole_known_laid_ropes.main.body.getD i (.Pass ⟨0, 0, 0, 0⟩)
abbrev st__law_draws : Stmt := top 90
abbrev st__law_power : Stmt := top 91
abbrev st_is_whole : Stmt := top 22
abbrev st__check_counts : Stmt := top 84
abbrev st__rows : Stmt := top 87
abbrev st_ropes_with : Stmt := top 88
abbrev st__power : Stmt := top 82
abbrev st_divisor : Stmt := top 16
abbrev st_count_ropes : Stmt := top 83
abbrev st_is_colour : Stmt := top 38
abbrev st_is_turn : Stmt := top 39
abbrev st_is_integer : Stmt := top 23
abbrev st_is_quotient : Stmt := top 24
abbrev st_is_less : Stmt := top 21
abbrev st_is_lay : Stmt := top 40
abbrev st__is_within : Stmt := top 41
abbrev st__are_parts : Stmt := top 42
abbrev st__things : Stmt := top 43
abbrev st_is_rope : Stmt := top 44
abbrev st__check : Stmt := top 45
abbrev st__yarns : Stmt := top 46
abbrev st_yarns_of : Stmt := top 47
abbrev st_is_hard : Stmt := top 48
abbrev st_check_length : Stmt := top 52
abbrev st_quotient : Stmt := top 17
abbrev st_times : Stmt := top 19
abbrev st_over : Stmt := top 20
abbrev st_plus : Stmt := top 18
abbrev st__turns : Stmt := top 51
abbrev st_turns_in : Stmt := top 53
abbrev st_is_quiet : Stmt := top 54
abbrev st__law_low : Stmt := top 92
abbrev st__check_take : Stmt := top 56
abbrev st__lengths : Stmt := top 57
abbrev st__needed : Stmt := top 58
abbrev st_needed : Stmt := top 59
abbrev st_ascends : Stmt := top 25
abbrev st__is_kept : Stmt := top 60
abbrev st_longest : Stmt := top 61
abbrev st_check_colours : Stmt := top 64
abbrev st__turned : Stmt := top 65
abbrev st__least_steps : Stmt := top 66
abbrev st_least_steps : Stmt := top 67
abbrev st__check_lay : Stmt := top 69
abbrev st__again : Stmt := top 70
abbrev st_comes_again : Stmt := top 71
abbrev st_both_again : Stmt := top 72
abbrev st__least_turned : Stmt := top 73
abbrev st__mirrored : Stmt := top 76
abbrev st_is_even_handed : Stmt := top 77
abbrev st_least_turned : Stmt := top 74
abbrev st_same_rope : Stmt := top 75
abbrev st__orders : Stmt := top 85
abbrev st_count_with : Stmt := top 86
abbrev st__turned_over : Stmt := top 49
abbrev st_turned_over : Stmt := top 50
abbrev st_quiet_lay : Stmt := top 55
abbrev st_turned : Stmt := top 68
abbrev st_law : Stmt := top 93
def g__law_draws : PL.Env → O := sSeq (sSetN 2 (sLs sNil)) (sSeq (sSet true (sCst (.int 7)) (pOne 3)) (sSeq (sFor (sIt (sLst (sRawSl 0 sNoP (sPart (sCst (.int 63)))))) (pOne 4) (sSeq (sSet true (sCb bAbs (sCons (sVar 4) sNil)) (pOne 5)) (sSeq (sSet true (sBin gMod (sCb bInt (sCons (sBin gAdd (sBin gAdd (sBin gMulT (sVar 3) (sCst (.int 48271))) (sVar 5)) (sCst (.int 11))) sNil)) (sCst (.int 2147483647))) (pOne 3)) (sIf (sB (sBin (gOrd .ge) (sVar 5) (sBin gPow (sCst (.int 10)) (sCst (.int 18))))) (sFor (sRg rg1 (sCons (sCst (.int 60)) sNil)) (pOne 6) (sIf (sB (sBin (gOrd .gt) (sVar 5) (sCst (.int 0)))) (sSeq (sApp true 2 (sBin gMod (sCb bInt (sCons (sVar 5) sNil)) (sCst (.int 1009)))) (sSet true (sBin gFdiv (sVar 5) (sCst (.int 1009))) (pOne 5))) sNx)) (sApp true 2 (sBin gMod (sBin gFdiv (sCb bInt (sCons (sBin gAdd (sBin gMulT (sVar 3) (sCst (.int 16807))) (sCst (.int 5))) sNil)) (sCst (.int 3))) (sCst (.int 65521)))))))) (sSeq (sFor (sRg rg1 (sCons (sVar 1) sNil)) (pOne 6) (sIf (sB (sBin (gOrd .lt) (sCb bLen (sCons (sVar 2) sNil)) (sVar 1))) (sSeq (sSet true (sBin gMod (sCb bInt (sCons (sBin gAdd (sBin gAdd (sBin gMulT (sVar 3) (sCst (.int 69621))) (sVar 6)) (sCst (.int 1))) sNil)) (sCst (.int 2147483647))) (pOne 3)) (sApp true 2 (sBin gMod (sBin gFdiv (sCb bInt (sCons (sVar 3) sNil)) (sCst (.int 7))) (sCst (.int 65521))))) sNx)) (sRet (sSl (sVar 2) sNoP (sPart (sVar 1)))))))
def F__law_draws : List Int → List D → R D := bodyR 7 g__law_draws
def g__law_power : PL.Env → O := sSeq (sSet true (sCst (.int 1)) (pOne 2)) (sSeq (sFor (sRg rg1 (sCons (sVar 1) sNil)) (pOne 3) (sSet true (sBin gMulT (sVar 2) (sVar 0)) (pOne 2))) (sRet (sVar 2)))
def F__law_power : List D → R D := bodyF 4 g__law_power
def g_is_whole : PL.Env → O := sRet (sAndV (sIsa "int" (sVar 0)) (sAndV (sNotV (sIsa "bool" (sVar 0))) (sChain (gOrd .le) (gOrd .le) (sVar 1) (sVar 0) (sVar 2))))
def F_is_whole : List D → R D := bodyF 3 g_is_whole
def g__check_counts : PL.Env → O := sSeq (sIf (sOr (sNot (sB (sIsa "tuple" (sVar 0)))) (sNot (sB (sChain (gOrd .le) (gOrd .le) (sCst (.int 1)) (sCb bLen (sCons (sVar 0) sNil)) (sCst (.int 6)))))) (sRs "BadCounts") sNx) (sIf (sOr (sNot (sB (sCb bAll (sCons (sLst (sLc [1] (sIt (sVar 0)) (pOne 1) sYes (sCall F_is_whole (sCons (sVar 1) (sCons (sCst (.int 1)) (sCons (sCst (.int 12)) sNil)))))) sNil)))) (sB (sBin (gOrd .gt) (sCb bSum (sCons (sVar 0) sNil)) (sCst (.int 12))))) (sRs "BadCounts") sNx)
def F__check_counts : List D → R D := bodyF 2 g__check_counts
def g__rows (rec__rows : List D → R D) : PL.Env → O := sSeq (sSetN 2 (sLs sNil)) (sSeq (sIf (sB (sBin gEq (sCb bSum (sCons (sVar 0) sNil)) (sCst (.int 0)))) (sRet (sLst (sLs (sCons (sVar 1) sNil)))) sNx) (sSeq (sFor (sRg enumD (sCons (sVar 0) sNil)) (pTup 2 (pCons (pOne 3) (pCons (pOne 4) pNil))) (sIf (sB (sBin (gOrd .gt) (sVar 4) (sCst (.int 0)))) (sSeq (sSet true (sBin gAdd (sBin gAdd (sSl (sVar 0) sNoP (sPart (sVar 3))) (sLst (sLs (sCons (sBin gSub (sVar 4) (sCst (.int 1))) sNil)))) (sSl (sVar 0) (sPart (sBin gAdd (sVar 3) (sCst (.int 1)))) sNoP)) (pOne 5)) (sExt true 2 (sCall rec__rows (sCons (sVar 5) (sCons (sBin gAdd (sVar 1) (sTup (sCons (sBin gIx (sCst (.str "abcdef")) (sVar 3)) sNil))) sNil))))) sNx)) (sRet (sVar 2))))
def F__rows : Nat → List D → R D
  | 0 => fun _ => .bad
  | n + 1 => bodyF 6 (g__rows (F__rows n))
def g_ropes_with : PL.Env → O := sSeq (sDrop true (sCall F__check_counts (sCons (sVar 0) sNil))) (sSeq (sIf (sB (sBin (gOrd .gt) (sCb bSum (sCons (sVar 0) sNil)) (sCst (.int 8)))) (sRs "TooMany") sNx) (sSeq (sSet true (sBin gAdd (sLst (sLs (sCons (sBin gSub (sBin gIx (sVar 0) (sCst (.int 0))) (sCst (.int 1))) sNil))) (sLst (sCn bList (sCons (sSl (sVar 0) (sPart (sCst (.int 1))) sNoP) sNil)))) (pOne 1)) (sSeq (sSet true (sCall (F__rows 20) (sCons (sVar 1) (sCons (sTup (sCons (sBin gIx (sCst (.str "abcdef")) (sCst (.int 0))) sNil)) sNil))) (pOne 2)) (sRet (sCb bTuple (sCons (sLst (sLc [3] (sIt (sVar 2)) (pOne 3) (sB (sBin gEq (sVar 3) (sCb bMin (sCons (sLst (sLc [4] (sRg rg1 (sCons (sCb bLen (sCons (sVar 3) sNil)) sNil)) (pOne 4) sYes (sBin gAdd (sSl (sVar 3) (sPart (sVar 4)) sNoP) (sSl (sVar 3) sNoP (sPart (sVar 4)))))) sNil)))) (sVar 3))) sNil))))))
def F_ropes_with : List D → R D := bodyF 5 g_ropes_with
def g__power : PL.Env → O := sSeq (sSet true (sCst (.int 1)) (pOne 2)) (sSeq (sFor (sRg rg1 (sCons (sVar 1) sNil)) (pOne 3) (sAug 2 (fun i j => if CMulW i j then some (i * j) else none) (sVar 0))) (sRet (sVar 2)))
def F__power : List D → R D := bodyF 4 g__power
def g_divisor : PL.Env → O := sSeq (sPar true [0, 1] (sCons (sCb bAbs (sCons (sVar 0) sNil)) (sCons (sCb bAbs (sCons (sVar 1) sNil)) sNil))) (sSeq (fun ρ => whGo (sB (sBin (gOrd .gt) (sVar 1) (sCst (.int 0)))) (sPar true [0, 1] (sCons (sVar 1) (sCons (sBin gMod (sVar 0) (sVar 1)) sNil))) 100000 ρ) (sRet (sVar 0)))
def F_divisor : List D → R D := bodyF 2 g_divisor
def g_count_ropes : PL.Env → O := sSeq (sIf (sNot (sB (sCall F_is_whole (sCons (sVar 0) (sCons (sCst (.int 1)) (sCons (sCst (.int 12)) sNil)))))) (sRs "BadStrandCount") sNx) (sSeq (sIf (sNot (sB (sCall F_is_whole (sCons (sVar 1) (sCons (sCst (.int 1)) (sCons (sCst (.int 6)) sNil)))))) (sRs "BadColourCount") sNx) (sRet (sBin gFdiv (sCb bSum (sCons (sLst (sLc [2] (sRg rg2 (sCons (sCst (.int 1)) (sCons (sBin gAdd (sVar 0) (sCst (.int 1))) sNil))) (pOne 2) sYes (sCall F__power (sCons (sVar 1) (sCons (sCall F_divisor (sCons (sVar 2) (sCons (sVar 0) sNil))) sNil))))) sNil)) (sVar 0))))
def F_count_ropes : List D → R D := bodyF 3 g_count_ropes
def g_is_colour : PL.Env → O := sRet (sAndV (sIsa "str" (sVar 0)) (sAndV (sChain (gOrd .le) (gOrd .le) (sCst (.int 1)) (sCb bLen (sCons (sVar 0) sNil)) (sCst (.int 8))) (sCb bAll (sCons (sLst (sLc [1] (sIt (sVar 0)) (pOne 1) sYes (sBin gIn (sVar 1) (sCst (.str "abcdefghijklmnopqrstuvwxyz"))))) sNil))))
def F_is_colour : List D → R D := bodyF 2 g_is_colour
def g_is_turn : PL.Env → O := sRet (sAndV (sIsa "str" (sVar 0)) (sBin gIn (sVar 0) (sCst (.tuple [.str "s", .str "z"]))))
def F_is_turn : List D → R D := bodyF 1 g_is_turn
def g_is_integer : PL.Env → O := sRet (sAndV (sIsa "int" (sVar 0)) (sNotV (sIsa "bool" (sVar 0))))
def F_is_integer : List D → R D := bodyF 1 g_is_integer
def g_is_quotient : PL.Env → O := sSeq (sIf (sOr (sNot (sB (sIsa "tuple" (sVar 0)))) (sOr (sB (sBin gNe (sCb bLen (sCons (sVar 0) sNil)) (sCst (.int 2)))) (sOr (sNot (sB (sCall F_is_integer (sCons (sBin gIx (sVar 0) (sCst (.int 0))) sNil)))) (sNot (sB (sCall F_is_integer (sCons (sBin gIx (sVar 0) (sCst (.int 1))) sNil))))))) (sRet (sCst (.bool false))) sNx) (sRet (sAndV (sBin (gOrd .gt) (sBin gIx (sVar 0) (sCst (.int 1))) (sCst (.int 0))) (sBin gEq (sCall F_divisor (sCons (sBin gIx (sVar 0) (sCst (.int 0))) (sCons (sBin gIx (sVar 0) (sCst (.int 1))) sNil))) (sCst (.int 1)))))
def F_is_quotient : List D → R D := bodyF 1 g_is_quotient
def g_is_less : PL.Env → O := sRet (sBin (gOrd .lt) (sBin gMulT (sBin gIx (sVar 0) (sCst (.int 0))) (sBin gIx (sVar 1) (sCst (.int 1)))) (sBin gMulT (sBin gIx (sVar 1) (sCst (.int 0))) (sBin gIx (sVar 0) (sCst (.int 1)))))
def F_is_less : List D → R D := bodyF 2 g_is_less
def g_is_lay : PL.Env → O := sRet (sAndV (sCall F_is_quotient (sCons (sVar 0) sNil)) (sAndV (sNotV (sCall F_is_less (sCons (sVar 0) (sCons (sTup (sCons (sCst (.int 1)) (sCons (sCst (.int 100)) sNil))) sNil)))) (sNotV (sCall F_is_less (sCons (sTup (sCons (sCst (.int 100)) (sCons (sCst (.int 1)) sNil))) (sCons (sVar 0) sNil))))))
def F_is_lay : List D → R D := bodyF 1 g_is_lay
def g__is_within (rec__is_within rec__are_parts : List D → R D) : PL.Env → O := sSeq (sIf (sOr (sB (sBin gEq (sVar 1) (sCst (.int 0)))) (sOr (sNot (sB (sIsa "tuple" (sVar 0)))) (sOr (sB (sBin gEq (sCb bLen (sCons (sVar 0) sNil)) (sCst (.int 0)))) (sNot (sB (sIsa "str" (sBin gIx (sVar 0) (sCst (.int 0))))))))) (sRet (sCst (.bool false))) sNx) (sSeq (sIf (sB (sBin gEq (sBin gIx (sVar 0) (sCst (.int 0))) (sCst (.str "yarn")))) (sRet (sAndV (sBin gEq (sCb bLen (sCons (sVar 0) sNil)) (sCst (.int 2))) (sCall F_is_colour (sCons (sBin gIx (sVar 0) (sCst (.int 1))) sNil)))) sNx) (sSeq (sIf (sOr (sB (sBin gNe (sCb bLen (sCons (sVar 0) sNil)) (sCst (.int 3)))) (sOr (sNot (sB (sCall F_is_turn (sCons (sBin gIx (sVar 0) (sCst (.int 0))) sNil)))) (sNot (sB (sCall F_is_lay (sCons (sBin gIx (sVar 0) (sCst (.int 1))) sNil)))))) (sRet (sCst (.bool false))) sNx) (sRet (sCall rec__are_parts (sCons (sBin gIx (sVar 0) (sCst (.int 2))) (sCons (sBin gSub (sVar 1) (sCst (.int 1))) sNil))))))
def g__are_parts (rec__is_within rec__are_parts : List D → R D) : PL.Env → O := sSeq (sIf (sOr (sNot (sB (sIsa "tuple" (sVar 0)))) (sNot (sB (sChain (gOrd .le) (gOrd .le) (sCst (.int 2)) (sCb bLen (sCons (sVar 0) sNil)) (sCst (.int 6)))))) (sRet (sCst (.bool false))) sNx) (sRet (sCb bAll (sCons (sLst (sLc [2] (sIt (sVar 0)) (pOne 2) sYes (sCall rec__is_within (sCons (sVar 2) (sCons (sVar 1) sNil))))) sNil)))
mutual
def F__is_within : Nat → List D → R D
  | 0 => fun _ => .bad
  | n + 1 => bodyF 2 (g__is_within (F__is_within n) (F__are_parts n))
def F__are_parts : Nat → List D → R D
  | 0 => fun _ => .bad
  | n + 1 => bodyF 3 (g__are_parts (F__is_within n) (F__are_parts n))
end
def g__things (rec__things : List D → R D) : PL.Env → O := sSeq (sSetN 1 (sLs (sCons (sVar 0) sNil))) (sSeq (sIf (sB (sBin gNe (sBin gIx (sVar 0) (sCst (.int 0))) (sCst (.str "yarn")))) (sFor (sIt (sBin gIx (sVar 0) (sCst (.int 2)))) (pOne 2) (sExt true 1 (sCall rec__things (sCons (sVar 2) sNil)))) sNx) (sRet (sVar 1)))
def F__things : Nat → List D → R D
  | 0 => fun _ => .bad
  | n + 1 => bodyF 3 (g__things (F__things n))
def g_is_rope : PL.Env → O := sRet (sAndV (sCall (F__is_within 20) (sCons (sVar 0) (sCons (sCst (.int 6)) sNil))) (sBin (gOrd .le) (sCb bLen (sCons (sCall (F__things 20) (sCons (sVar 0) sNil)) sNil)) (sCst (.int 60))))
def F_is_rope : List D → R D := bodyF 1 g_is_rope
def g__check : PL.Env → O := sIf (sNot (sB (sCall F_is_rope (sCons (sVar 0) sNil)))) (sRs "BadStrands") sNx
def F__check : List D → R D := bodyF 1 g__check
def g__yarns : PL.Env → O := sRet (sLst (sLc [1] (sIt (sCall (F__things 20) (sCons (sVar 0) sNil))) (pOne 1) (sB (sBin gEq (sBin gIx (sVar 1) (sCst (.int 0))) (sCst (.str "yarn")))) (sBin gIx (sVar 1) (sCst (.int 1)))))
def F__yarns : List D → R D := bodyF 2 g__yarns
def g_yarns_of : PL.Env → O := sSeq (sDrop true (sCall F__check (sCons (sVar 0) sNil))) (sRet (sCb bTuple (sCons (sCall F__yarns (sCons (sVar 0) sNil)) sNil)))
def F_yarns_of : List D → R D := bodyF 1 g_yarns_of
def g_is_hard : PL.Env → O := sSeq (sDrop true (sCall F__check (sCons (sVar 0) sNil))) (sSeq (sFor (sIt (sCall (F__things 20) (sCons (sVar 0) sNil))) (pOne 1) (sIf (sAnd (sB (sBin gNe (sBin gIx (sVar 1) (sCst (.int 0))) (sCst (.str "yarn")))) (sB (sCb bAny (sCons (sLst (sLc [2] (sIt (sBin gIx (sVar 1) (sCst (.int 2)))) (pOne 2) sYes (sBin gEq (sBin gIx (sVar 2) (sCst (.int 0))) (sBin gIx (sVar 1) (sCst (.int 0)))))) sNil)))) (sRet (sCst (.bool false))) sNx)) (sRet (sCst (.bool true))))
def F_is_hard : List D → R D := bodyF 3 g_is_hard
def g_check_length : PL.Env → O := sIf (sNot (sB (sCall F_is_whole (sCons (sVar 0) (sCons (sCst (.int 1)) (sCons (sCst (.int 1000)) sNil)))))) (sRs "BadLength") sNx
def F_check_length : List D → R D := bodyF 1 g_check_length
def g_quotient : PL.Env → O := sSeq (sSet true (sCall F_divisor (sCons (sVar 0) (sCons (sVar 1) sNil))) (pOne 2)) (sRet (sTup (sCons (sBin gFdiv (sVar 0) (sVar 2)) (sCons (sBin gFdiv (sVar 1) (sVar 2)) sNil))))
def F_quotient : List D → R D := bodyF 3 g_quotient
def g_times : PL.Env → O := sRet (sCall F_quotient (sCons (sBin gMulT (sBin gIx (sVar 0) (sCst (.int 0))) (sBin gIx (sVar 1) (sCst (.int 0)))) (sCons (sBin gMulT (sBin gIx (sVar 0) (sCst (.int 1))) (sBin gIx (sVar 1) (sCst (.int 1)))) sNil)))
def F_times : List D → R D := bodyF 2 g_times
def g_over : PL.Env → O := sRet (sCall F_quotient (sCons (sBin gMulT (sBin gIx (sVar 0) (sCst (.int 0))) (sBin gIx (sVar 1) (sCst (.int 1)))) (sCons (sBin gMulT (sBin gIx (sVar 0) (sCst (.int 1))) (sBin gIx (sVar 1) (sCst (.int 0)))) sNil)))
def F_over : List D → R D := bodyF 2 g_over
def g_plus : PL.Env → O := sRet (sCall F_quotient (sCons (sBin gAdd (sBin gMulT (sBin gIx (sVar 0) (sCst (.int 0))) (sBin gIx (sVar 1) (sCst (.int 1)))) (sBin gMulT (sBin gIx (sVar 1) (sCst (.int 0))) (sBin gIx (sVar 0) (sCst (.int 1))))) (sCons (sBin gMulT (sBin gIx (sVar 0) (sCst (.int 1))) (sBin gIx (sVar 1) (sCst (.int 1)))) sNil)))
def F_plus : List D → R D := bodyF 2 g_plus
def g__turns (rec__turns : List D → R D) : PL.Env → O := sSeq (sIf (sB (sBin gEq (sBin gIx (sVar 0) (sCst (.int 0))) (sCst (.str "yarn")))) (sRet (sLst (sLs (sCons (sVar 1) sNil)))) sNx) (sSeq (sSet true (sCall F_over (sCons (sCst (.tuple [.int 1, .int 1])) (sCons (sBin gIx (sVar 0) (sCst (.int 1))) sNil))) (pOne 2)) (sSeq (sSet true (sCall F_plus (sCons (sVar 1) (sCons (sIte (sB (sBin gEq (sBin gIx (sVar 0) (sCst (.int 0))) (sCst (.str "z")))) (sVar 2) (sCall F_times (sCons (sVar 2) (sCons (sTup (sCons (sUn gNeg (sCst (.int 1))) (sCons (sCst (.int 1)) sNil))) sNil)))) sNil))) (pOne 3)) (sSeq (sSetN 4 (sLs sNil)) (sSeq (sFor (sIt (sBin gIx (sVar 0) (sCst (.int 2)))) (pOne 5) (sExt true 4 (sCall rec__turns (sCons (sVar 5) (sCons (sVar 3) sNil))))) (sRet (sVar 4))))))
def F__turns : Nat → List D → R D
  | 0 => fun _ => .bad
  | n + 1 => bodyF 6 (g__turns (F__turns n))
def g_turns_in : PL.Env → O := sSeq (sDrop true (sCall F__check (sCons (sVar 0) sNil))) (sSeq (sDrop true (sCall F_check_length (sCons (sVar 1) sNil))) (sRet (sCb bTuple (sCons (sLst (sLc [2] (sIt (sCall (F__turns 20) (sCons (sVar 0) (sCons (sCst (.tuple [.int 0, .int 1])) sNil)))) (pOne 2) sYes (sCall F_times (sCons (sVar 2) (sCons (sTup (sCons (sVar 1) (sCons (sCst (.int 1)) sNil))) sNil))))) sNil))))
def F_turns_in : List D → R D := bodyF 3 g_turns_in
def g_is_quiet : PL.Env → O := sSeq (sDrop true (sCall F__check (sCons (sVar 0) sNil))) (sRet (sCb bAll (sCons (sLst (sLc [1] (sIt (sCall (F__turns 20) (sCons (sVar 0) (sCons (sCst (.tuple [.int 0, .int 1])) sNil)))) (pOne 1) sYes (sBin gEq (sVar 1) (sCst (.tuple [.int 0, .int 1]))))) sNil)))
def F_is_quiet : List D → R D := bodyF 2 g_is_quiet
def g__law_low : PL.Env → O := sSeq (sPar true [2, 3] (sCons (sVar 0) (sCons (sVar 1) sNil))) (sSeq (fun ρ => whGo (sB (sBin (gOrd .gt) (sVar 3) (sCst (.int 0)))) (sPar true [2, 3] (sCons (sVar 3) (sCons (sBin gMod (sVar 2) (sVar 3)) sNil))) 100000 ρ) (sRet (sTup (sCons (sBin gFdiv (sVar 0) (sVar 2)) (sCons (sBin gFdiv (sVar 1) (sVar 2)) sNil)))))
def F__law_low : List D → R D := bodyF 4 g__law_low
def g__check_take : PL.Env → O := sIf (sOr (sNot (sB (sCall F_is_quotient (sCons (sVar 0) sNil)))) (sOr (sB (sCall F_is_less (sCons (sVar 0) (sCons (sCst (.tuple [.int 1, .int 1])) sNil)))) (sB (sCall F_is_less (sCons (sTup (sCons (sCst (.int 2)) (sCons (sCst (.int 1)) sNil))) (sCons (sVar 0) sNil)))))) (sRs "BadTake") sNx
def F__check_take : List D → R D := bodyF 1 g__check_take
def g__lengths (rec__lengths : List D → R D) : PL.Env → O := sSeq (sIf (sB (sBin gEq (sBin gIx (sVar 0) (sCst (.int 0))) (sCst (.str "yarn")))) (sRet (sLst (sLs (sCons (sTup (sCons (sBin gIx (sVar 0) (sCst (.int 1))) (sCons (sVar 2) sNil))) sNil)))) sNx) (sSeq (sSetN 3 (sLs sNil)) (sSeq (sFor (sIt (sBin gIx (sVar 0) (sCst (.int 2)))) (pOne 4) (sExt true 3 (sCall rec__lengths (sCons (sVar 4) (sCons (sVar 1) (sCons (sCall F_times (sCons (sVar 2) (sCons (sVar 1) sNil))) sNil)))))) (sRet (sVar 3))))
def F__lengths : Nat → List D → R D
  | 0 => fun _ => .bad
  | n + 1 => bodyF 5 (g__lengths (F__lengths n))
def g__needed : PL.Env → O := sSeq (sSetD 3 sD0) (sSeq (sFor (sIt (sCall (F__lengths 20) (sCons (sVar 0) (sCons (sVar 1) (sCons (sVar 2) sNil))))) (pTup 2 (pCons (pOne 4) (pCons (pOne 5) pNil))) (sPutD true 3 (sCall F_plus (sCons (sGet2 (sXo 3) (sVar 4) (sCst (.tuple [.int 0, .int 1]))) (sCons (sVar 5) sNil))) (sVar 4))) (fun ρ => (sRet (sVar 3)) (frzD 3 ρ)))
def F__needed : List D → R D := bodyF 6 g__needed
def g_needed : PL.Env → O := sSeq (sDrop true (sCall F__check (sCons (sVar 0) sNil))) (sSeq (sDrop true (sCall F__check_take (sCons (sVar 1) sNil))) (sSeq (sDrop true (sCall F_check_length (sCons (sVar 2) sNil))) (sSeq (sSet true (sCall F__needed (sCons (sVar 0) (sCons (sVar 1) (sCons (sTup (sCons (sVar 2) (sCons (sCst (.int 1)) sNil))) sNil)))) (pOne 3)) (sRet (sCb bTuple (sCons (sLst (sLc [4] (sIt (sLst (sCn bSortedD (sCons (sVar 3) sNil)))) (pOne 4) sYes (sTup (sCons (sVar 4) (sCons (sDix (sXv (sVar 3)) (sVar 4)) sNil))))) sNil))))))
def F_needed : List D → R D := bodyF 5 g_needed
def g_ascends : PL.Env → O := sRet (sCb bAll (sCons (sLst (sLc [1, 2] (sRg zipD (sCons (sVar 0) (sCons (sSl (sVar 0) (sPart (sCst (.int 1))) sNoP) sNil))) (pTup 2 (pCons (pOne 1) (pCons (pOne 2) pNil))) sYes (sBin (gOrd .lt) (sVar 1) (sVar 2)))) sNil))
def F_ascends : List D → R D := bodyF 3 g_ascends
def g__is_kept : PL.Env → O := sRet (sAndV (sIsa "tuple" (sVar 0)) (sAndV (sBin gEq (sCb bLen (sCons (sVar 0) sNil)) (sCst (.int 2))) (sAndV (sCall F_is_colour (sCons (sBin gIx (sVar 0) (sCst (.int 0))) sNil)) (sCall F_is_whole (sCons (sBin gIx (sVar 0) (sCst (.int 1))) (sCons (sCst (.int 0)) (sCons (sCst (.int 100000)) sNil)))))))
def F__is_kept : List D → R D := bodyF 1 g__is_kept
def g_longest : PL.Env → O := sSeq (sDrop true (sCall F__check (sCons (sVar 0) sNil))) (sSeq (sDrop true (sCall F__check_take (sCons (sVar 1) sNil))) (sSeq (sIf (sOr (sNot (sB (sIsa "tuple" (sVar 2)))) (sNot (sB (sCb bAll (sCons (sLst (sLc [3] (sIt (sVar 2)) (pOne 3) sYes (sCall F__is_kept (sCons (sVar 3) sNil)))) sNil))))) (sRs "BadStock") sNx) (sSeq (sIf (sNot (sB (sCall F_ascends (sCons (sLst (sLc [4, 5] (sIt (sVar 2)) (pTup 2 (pCons (pOne 4) (pCons (pOne 5) pNil))) sYes (sVar 4))) sNil)))) (sRs "BadStock") sNx) (sSeq (sSet true (sDv (sCd bDict (sCons (sVar 2) sNil))) (pOne 6)) (sSeq (sSet true (sCall F__needed (sCons (sVar 0) (sCons (sVar 1) (sCons (sCst (.tuple [.int 1, .int 1])) sNil)))) (pOne 7)) (sSeq (sSet true (sLst (sLc [4] (sItD (sVar 7)) (pOne 4) sYes (sCall F_over (sCons (sTup (sCons (sGet2 (sXv (sVar 6)) (sVar 4) (sCst (.int 0))) (sCons (sCst (.int 1)) sNil))) (sCons (sDix (sXv (sVar 7)) (sVar 4)) sNil))))) (pOne 8)) (sSeq (sSet true (sBin gIx (sVar 8) (sCst (.int 0))) (pOne 9)) (sSeq (sFor (sIt (sVar 8)) (pOne 10) (sSet true (sIte (sB (sCall F_is_less (sCons (sVar 10) (sCons (sVar 9) sNil)))) (sVar 10) (sVar 9)) (pOne 9))) (sRet (sVar 9))))))))))
def F_longest : List D → R D := bodyF 11 g_longest
def g_check_colours : PL.Env → O := sSeq (sIf (sOr (sNot (sB (sIsa "tuple" (sVar 0)))) (sNot (sB (sChain (gOrd .le) (gOrd .le) (sCst (.int 1)) (sCb bLen (sCons (sVar 0) sNil)) (sCst (.int 12)))))) (sRs "BadColours") sNx) (sIf (sNot (sB (sCb bAll (sCons (sLst (sLc [1] (sIt (sVar 0)) (pOne 1) sYes (sCall F_is_colour (sCons (sVar 1) sNil)))) sNil)))) (sRs "BadColours") sNx)
def F_check_colours : List D → R D := bodyF 2 g_check_colours
def g__turned : PL.Env → O := sSeq (sSet true (sBin gMod (sVar 1) (sCb bLen (sCons (sVar 0) sNil))) (pOne 2)) (sRet (sBin gAdd (sSl (sVar 0) (sPart (sVar 2)) sNoP) (sSl (sVar 0) sNoP (sPart (sVar 2)))))
def F__turned : List D → R D := bodyF 3 g__turned
def g__least_steps : PL.Env → O := sRet (sBin gIx (sLst (sLc [1] (sRg rg2 (sCons (sCst (.int 1)) (sCons (sBin gAdd (sCb bLen (sCons (sVar 0) sNil)) (sCst (.int 1))) sNil))) (pOne 1) (sB (sBin gEq (sCall F__turned (sCons (sVar 0) (sCons (sVar 1) sNil))) (sVar 0))) (sVar 1))) (sCst (.int 0)))
def F__least_steps : List D → R D := bodyF 2 g__least_steps
def g_least_steps : PL.Env → O := sSeq (sDrop true (sCall F_check_colours (sCons (sVar 0) sNil))) (sRet (sCall F__least_steps (sCons (sVar 0) sNil)))
def F_least_steps : List D → R D := bodyF 1 g_least_steps
def g__check_lay : PL.Env → O := sIf (sNot (sB (sCall F_is_lay (sCons (sVar 0) sNil)))) (sRs "BadLay") sNx
def F__check_lay : List D → R D := bodyF 1 g__check_lay
def g__again : PL.Env → O := sRet (sCall F_times (sCons (sVar 1) (sCons (sCall F_quotient (sCons (sCall F__least_steps (sCons (sVar 0) sNil)) (sCons (sCb bLen (sCons (sVar 0) sNil)) sNil))) sNil)))
def F__again : List D → R D := bodyF 2 g__again
def g_comes_again : PL.Env → O := sSeq (sDrop true (sCall F_check_colours (sCons (sVar 0) sNil))) (sSeq (sDrop true (sCall F__check_lay (sCons (sVar 1) sNil))) (sRet (sCall F__again (sCons (sVar 0) (sCons (sVar 1) sNil)))))
def F_comes_again : List D → R D := bodyF 2 g_comes_again
def g_both_again : PL.Env → O := sSeq (sDrop true (sCall F_check_colours (sCons (sVar 0) sNil))) (sSeq (sDrop true (sCall F__check_lay (sCons (sVar 1) sNil))) (sSeq (sDrop true (sCall F_check_colours (sCons (sVar 2) sNil))) (sSeq (sDrop true (sCall F__check_lay (sCons (sVar 3) sNil))) (sSeq (sPar true [4, 5] (sCons (sCall F__again (sCons (sVar 0) (sCons (sVar 1) sNil))) (sCons (sCall F__again (sCons (sVar 2) (sCons (sVar 3) sNil))) sNil))) (sSeq (sSet true (sCall F_over (sCons (sVar 4) (sCons (sVar 5) sNil))) (pOne 6)) (sRet (sCall F_times (sCons (sVar 4) (sCons (sTup (sCons (sBin gIx (sVar 6) (sCst (.int 1))) (sCons (sCst (.int 1)) sNil))) sNil)))))))))
def F_both_again : List D → R D := bodyF 7 g_both_again
def g__least_turned : PL.Env → O := sRet (sCb bMin (sCons (sLst (sLc [1] (sRg rg1 (sCons (sCb bLen (sCons (sVar 0) sNil)) sNil)) (pOne 1) sYes (sCall F__turned (sCons (sVar 0) (sCons (sVar 1) sNil))))) sNil))
def F__least_turned : List D → R D := bodyF 2 g__least_turned
def g__mirrored : PL.Env → O := sRet (sBin gAdd (sSl (sVar 0) sNoP (sPart (sCst (.int 1)))) (sUn gRev (sSl (sVar 0) (sPart (sCst (.int 1))) sNoP)))
def F__mirrored : List D → R D := bodyF 1 g__mirrored
def g_is_even_handed : PL.Env → O := sSeq (sDrop true (sCall F_check_colours (sCons (sVar 0) sNil))) (sRet (sBin gEq (sCall F__least_turned (sCons (sCall F__mirrored (sCons (sVar 0) sNil)) sNil)) (sCall F__least_turned (sCons (sVar 0) sNil))))
def F_is_even_handed : List D → R D := bodyF 1 g_is_even_handed
def g_least_turned : PL.Env → O := sSeq (sDrop true (sCall F_check_colours (sCons (sVar 0) sNil))) (sRet (sCall F__least_turned (sCons (sVar 0) sNil)))
def F_least_turned : List D → R D := bodyF 1 g_least_turned
def g_same_rope : PL.Env → O := sSeq (sDrop true (sCall F_check_colours (sCons (sVar 0) sNil))) (sSeq (sDrop true (sCall F_check_colours (sCons (sVar 1) sNil))) (sRet (sBin gEq (sCall F__least_turned (sCons (sVar 0) sNil)) (sCall F__least_turned (sCons (sVar 1) sNil)))))
def F_same_rope : List D → R D := bodyF 2 g_same_rope
def g__orders : PL.Env → O := sSeq (sSet true (sCst (.int 1)) (pOne 1)) (sSeq (sSet true (sCst (.int 0)) (pOne 2)) (sSeq (sFor (sIt (sVar 0)) (pOne 3) (sFor (sRg rg2 (sCons (sCst (.int 1)) (sCons (sBin gAdd (sVar 3) (sCst (.int 1))) sNil))) (pOne 4) (sSeq (sAug 2 (fun i j => some (i + j)) (sCst (.int 1))) (sSet true (sBin gFdiv (sBin gMulT (sVar 1) (sVar 2)) (sVar 4)) (pOne 1))))) (sRet (sVar 1))))
def F__orders : List D → R D := bodyF 5 g__orders
def g_count_with : PL.Env → O := sSeq (sDrop true (sCall F__check_counts (sCons (sVar 0) sNil))) (sSeq (sSet true (sCb bSum (sCons (sVar 0) sNil)) (pOne 1)) (sSeq (sSet true (sCst (.int 0)) (pOne 2)) (sSeq (sFor (sRg rg2 (sCons (sCst (.int 1)) (sCons (sBin gAdd (sVar 1) (sCst (.int 1))) sNil))) (pOne 3) (sSeq (sSet true (sBin gFdiv (sVar 1) (sCall F_divisor (sCons (sVar 3) (sCons (sVar 1) sNil)))) (pOne 4)) (sIf (sB (sCb bAll (sCons (sLst (sLc [5] (sIt (sVar 0)) (pOne 5) sYes (sBin gEq (sBin gMod (sVar 5) (sVar 4)) (sCst (.int 0))))) sNil))) (sAug 2 (fun i j => some (i + j)) (sCall F__orders (sCons (sLst (sLc [5] (sIt (sVar 0)) (pOne 5) sYes (sBin gFdiv (sVar 5) (sVar 4)))) sNil))) sNx))) (sRet (sBin gFdiv (sVar 2) (sVar 1))))))
def F_count_with : List D → R D := bodyF 6 g_count_with
def g__turned_over (rec__turned_over : List D → R D) : PL.Env → O := sSeq (sIf (sB (sBin gEq (sBin gIx (sVar 0) (sCst (.int 0))) (sCst (.str "yarn")))) (sRet (sVar 0)) sNx) (sRet (sTup (sCons (sIte (sB (sBin gEq (sBin gIx (sVar 0) (sCst (.int 0))) (sCst (.str "s")))) (sCst (.str "z")) (sCst (.str "s"))) (sCons (sBin gIx (sVar 0) (sCst (.int 1))) (sCons (sCb bTuple (sCons (sLst (sLc [1] (sIt (sBin gIx (sVar 0) (sCst (.int 2)))) (pOne 1) sYes (sCall rec__turned_over (sCons (sVar 1) sNil)))) sNil)) sNil)))))
def F__turned_over : Nat → List D → R D
  | 0 => fun _ => .bad
  | n + 1 => bodyF 2 (g__turned_over (F__turned_over n))
def g_turned_over : PL.Env → O := sSeq (sDrop true (sCall F__check (sCons (sVar 0) sNil))) (sRet (sCall (F__turned_over 20) (sCons (sVar 0) sNil)))
def F_turned_over : List D → R D := bodyF 1 g_turned_over
def g_quiet_lay : PL.Env → O := sSeq (sIf (sNot (sB (sCall F_is_turn (sCons (sVar 0) sNil)))) (sRs "BadTurn") sNx) (sSeq (sIf (sOr (sNot (sB (sCall (F__are_parts 20) (sCons (sVar 1) (sCons (sBin gSub (sCst (.int 6)) (sCst (.int 1))) sNil))))) (sB (sBin (gOrd .ge) (sCb bSum (sCons (sLst (sLc [2] (sIt (sVar 1)) (pOne 2) sYes (sCb bLen (sCons (sCall (F__things 20) (sCons (sVar 2) sNil)) sNil)))) sNil)) (sCst (.int 60))))) (sRs "BadParts") sNx) (sSeq (sSetN 3 (sLs sNil)) (sSeq (sFor (sIt (sVar 1)) (pOne 2) (sExt true 3 (sCall (F__turns 20) (sCons (sVar 2) (sCons (sCst (.tuple [.int 0, .int 1])) sNil))))) (sSeq (sIf (sB (sCb bAny (sCons (sLst (sLc [4] (sIt (sVar 3)) (pOne 4) sYes (sBin gNe (sVar 4) (sBin gIx (sVar 3) (sCst (.int 0)))))) sNil))) (sRet (sCst .none)) sNx) (sSeq (fun ρ => (sSet true (sIte (sB (sBin gEq (sVar 0) (sCst (.str "s")))) (sBin gIx (sVar 3) (sCst (.int 0))) (sCall F_times (sCons (sBin gIx (sVar 3) (sCst (.int 0))) (sCons (sTup (sCons (sUn gNeg (sCst (.int 1))) (sCons (sCst (.int 1)) sNil))) sNil)))) (pOne 5)) (frz 3 ρ)) (sSeq (sIf (sNot (sB (sCall F_is_less (sCons (sCst (.tuple [.int 0, .int 1])) (sCons (sVar 5) sNil))))) (sRet (sCst .none)) sNx) (sSeq (sSet true (sCall F_over (sCons (sCst (.tuple [.int 1, .int 1])) (sCons (sVar 5) sNil))) (pOne 6)) (sRet (sIte (sB (sCall F_is_lay (sCons (sVar 6) sNil))) (sVar 6) (sCst .none))))))))))
def F_quiet_lay : List D → R D := bodyF 7 g_quiet_lay
def g_turned : PL.Env → O := sSeq (sDrop true (sCall F_check_colours (sCons (sVar 0) sNil))) (sSeq (sIf (sNot (sB (sCall F_is_integer (sCons (sVar 1) sNil)))) (sRs "BadSteps") sNx) (sRet (sCall F__turned (sCons (sVar 0) (sCons (sVar 1) sNil)))))
def F_turned : List D → R D := bodyF 2 g_turned
def g_law_0 : PL.Env → O := sSet true (sCallR 0 F__law_draws (sCons (sCst (.int 30)) sNil)) (pOne 1)
def g_law_1 : PL.Env → O := sSet true (sBin gAdd (sCst (.int 1)) (sBin gMod (sCb bInt (sCons (sBin gIx (sVar 1) (sCst (.int 0))) sNil)) (sCst (.int 20)))) (pOne 2)
def g_law_2_0 : PL.Env → O := sSet true (sBin gAdd (sCst (.int 2)) (sBin gMulT (sCb bInt (sCons (sBin (gOrd .lt) (sVar 3) (sCst (.int 3))) sNil)) (sBin gMod (sCb bInt (sCons (sBin gIx (sVar 1) (sVar 3)) sNil)) (sCst (.int 2))))) (pOne 4)
def g_law_2_1 : PL.Env → O := sSet true (sTup (sCons (sCst (.str "yarn")) (sCons (sCst (.str "hemp")) sNil))) (pOne 5)
def g_law_2_2_0 : PL.Env → O := sSet true (sTup (sCons (sBin gIx (sLst (sLs (sCons (sCst (.str "s")) (sCons (sCst (.str "z")) sNil)))) (sBin gMod (sCb bInt (sCons (sVar 6) sNil)) (sCst (.int 2)))) (sCons (sTup (sCons (sVar 2) (sCons (sCst (.int 1)) sNil))) (sCons (sBin gMulT (sTup (sCons (sVar 5) sNil)) (sVar 4)) sNil)))) (pOne 5)
def g_law_2_2 : PL.Env → O := sFor (sRg rg1 (sCons (sVar 3) sNil)) (pOne 6) g_law_2_2_0
def g_law_2_3 : PL.Env → O := sSet true (sCall F__law_power (sCons (sVar 4) (sCons (sVar 3) sNil))) (pOne 7)
def g_law_2_4 : PL.Env → O := sIf (sOr (sB (sBin gNe (sCall F_yarns_of (sCons (sVar 5) sNil)) (sBin gMulT (sTup (sCons (sCst (.str "hemp")) sNil)) (sVar 7)))) (sOr (sNot (sB (sCall F_is_hard (sCons (sVar 5) sNil)))) (sOr (sB (sBin gNe (sCall F_turns_in (sCons (sVar 5) (sCons (sVar 2) sNil))) (sBin gMulT (sTup (sCons (sTup (sCons (sIte (sB (sBin gEq (sBin gMod (sCb bInt (sCons (sVar 3) sNil)) (sCst (.int 2))) (sCst (.int 1)))) (sUn gNeg (sCst (.int 1))) (sCst (.int 0))) (sCons (sCst (.int 1)) sNil))) sNil)) (sVar 7)))) (sB (sBin gNe (sCall F_is_quiet (sCons (sVar 5) sNil)) (sBin gEq (sBin gMod (sCb bInt (sCons (sVar 3) sNil)) (sCst (.int 2))) (sCst (.int 0)))))))) (sRet (sCst (.bool false))) sNx
def g_law_2_5 : PL.Env → O := sIf (sOr (sB (sBin gNe (sBin gIx (sBin gIx (sCall F_needed (sCons (sVar 5) (sCons (sTup (sCons (sCst (.int 3)) (sCons (sCst (.int 2)) sNil))) (sCons (sCst (.int 100)) sNil)))) (sCst (.int 0))) (sCst (.int 1))) (sCall F__law_low (sCons (sBin gMulT (sBin gMulT (sCst (.int 100)) (sVar 7)) (sCall F__law_power (sCons (sCst (.int 3)) (sCons (sVar 3) sNil)))) (sCons (sCall F__law_power (sCons (sCst (.int 2)) (sCons (sVar 3) sNil))) sNil))))) (sB (sBin gNe (sCall F_needed (sCons (sVar 5) (sCons (sTup (sCons (sCst (.int 1)) (sCons (sCst (.int 1)) sNil))) (sCons (sCst (.int 7)) sNil)))) (sTup (sCons (sTup (sCons (sCst (.str "hemp")) (sCons (sTup (sCons (sBin gMulT (sCst (.int 7)) (sVar 7)) (sCons (sCst (.int 1)) sNil))) sNil))) sNil))))) (sRet (sCst (.bool false))) sNx
def g_law_2_6 : PL.Env → O := sIf (sOr (sB (sBin gNe (sCall F_longest (sCons (sVar 5) (sCons (sTup (sCons (sCst (.int 2)) (sCons (sCst (.int 1)) sNil))) (sCons (sTup (sCons (sTup (sCons (sCst (.str "hemp")) (sCons (sCst (.int 1000)) sNil))) sNil)) sNil)))) (sCall F__law_low (sCons (sCst (.int 1000)) (sCons (sBin gMulT (sVar 7) (sCall F__law_power (sCons (sCst (.int 2)) (sCons (sVar 3) sNil)))) sNil))))) (sB (sBin gNe (sCall F_turns_in (sCons (sCall F_turned_over (sCons (sVar 5) sNil)) (sCons (sBin gMulT (sCst (.int 2)) (sVar 2)) sNil))) (sBin gMulT (sTup (sCons (sTup (sCons (sIte (sB (sBin gEq (sBin gMod (sCb bInt (sCons (sVar 3) sNil)) (sCst (.int 2))) (sCst (.int 1)))) (sCst (.int 2)) (sCst (.int 0))) (sCons (sCst (.int 1)) sNil))) sNil)) (sVar 7))))) (sRet (sCst (.bool false))) sNx
def g_law_2_7 : PL.Env → O := sIf (sOr (sAnd (sB (sBin gEq (sBin gMod (sCb bInt (sCons (sVar 3) sNil)) (sCst (.int 2))) (sCst (.int 1)))) (sB (sBin gNe (sCall F_quiet_lay (sCons (sCst (.str "z")) (sCons (sTup (sCons (sVar 5) (sCons (sVar 5) sNil))) sNil))) (sTup (sCons (sVar 2) (sCons (sCst (.int 1)) sNil)))))) (sAnd (sB (sBin gEq (sVar 3) (sCst (.int 2)))) (sB (sBin gIsNot (sCall F_quiet_lay (sCons (sCst (.str "z")) (sCons (sTup (sCons (sVar 5) (sCons (sVar 5) sNil))) sNil))) (sCst .none))))) (sRet (sCst (.bool false))) sNx
def g_law_2 : PL.Env → O := sFor (sRg rg2 (sCons (sCst (.int 1)) (sCons (sCst (.int 5)) sNil))) (pOne 3) (sSeq g_law_2_0 (sSeq g_law_2_1 (sSeq g_law_2_2 (sSeq g_law_2_3 (sSeq g_law_2_4 (sSeq g_law_2_5 (sSeq g_law_2_6 g_law_2_7)))))))
def g_law_3_0 : PL.Env → O := sPar true [8, 9] (sCons (sBin gMulT (sTup (sCons (sCst (.str "red")) sNil)) (sVar 4)) (sCons (sCb bTuple (sCons (sLst (sLc [6] (sRg rg1 (sCons (sVar 4) sNil)) (pOne 6) sYes (sBin gIx (sLst (sLs (sCons (sCst (.str "a")) (sCons (sCst (.str "b")) (sCons (sCst (.str "c")) (sCons (sCst (.str "d")) (sCons (sCst (.str "e")) (sCons (sCst (.str "f")) (sCons (sCst (.str "g")) (sCons (sCst (.str "h")) (sCons (sCst (.str "i")) (sCons (sCst (.str "j")) (sCons (sCst (.str "k")) (sCons (sCst (.str "l")) sNil)))))))))))))) (sVar 6)))) sNil)) sNil))
def g_law_3_1 : PL.Env → O := sIf (sOr (sB (sBin gNe (sCall F_least_steps (sCons (sVar 8) sNil)) (sCst (.int 1)))) (sOr (sB (sBin gNe (sCall F_comes_again (sCons (sVar 8) (sCons (sTup (sCons (sVar 2) (sCons (sCst (.int 1)) sNil))) sNil))) (sCall F__law_low (sCons (sVar 2) (sCons (sVar 4) sNil))))) (sOr (sB (sBin gNe (sCall F_least_steps (sCons (sVar 9) sNil)) (sVar 4))) (sB (sBin gNe (sCall F_comes_again (sCons (sVar 9) (sCons (sTup (sCons (sVar 2) (sCons (sCst (.int 1)) sNil))) sNil))) (sTup (sCons (sVar 2) (sCons (sCst (.int 1)) sNil)))))))) (sRet (sCst (.bool false))) sNx
def g_law_3_2 : PL.Env → O := sIf (sOr (sB (sBin gNe (sCall F_both_again (sCons (sVar 9) (sCons (sTup (sCons (sVar 2) (sCons (sCst (.int 1)) sNil))) (sCons (sVar 9) (sCons (sTup (sCons (sVar 2) (sCons (sCst (.int 1)) sNil))) sNil))))) (sTup (sCons (sVar 2) (sCons (sCst (.int 1)) sNil))))) (sOr (sB (sBin gNe (sCall F_both_again (sCons (sVar 9) (sCons (sTup (sCons (sCst (.int 2)) (sCons (sCst (.int 1)) sNil))) (sCons (sVar 9) (sCons (sTup (sCons (sCst (.int 3)) (sCons (sCst (.int 1)) sNil))) sNil))))) (sTup (sCons (sCst (.int 6)) (sCons (sCst (.int 1)) sNil))))) (sB (sBin gNe (sCall F_is_even_handed (sCons (sVar 9) sNil)) (sBin (gOrd .lt) (sVar 4) (sCst (.int 3))))))) (sRet (sCst (.bool false))) sNx
def g_law_3_3 : PL.Env → O := sSet true (sBin gMod (sCb bInt (sCons (sBin gIx (sVar 1) (sVar 4)) sNil)) (sVar 4)) (pOne 10)
def g_law_3_4 : PL.Env → O := sIf (sOr (sB (sBin gNe (sCall F_least_turned (sCons (sCall F_turned (sCons (sVar 9) (sCons (sVar 10) sNil))) sNil)) (sVar 9))) (sOr (sNot (sB (sCall F_same_rope (sCons (sCall F_turned (sCons (sVar 9) (sCons (sVar 10) sNil))) (sCons (sVar 9) sNil))))) (sNot (sB (sCall F_is_even_handed (sCons (sVar 8) sNil)))))) (sRet (sCst (.bool false))) sNx
def g_law_3_5 : PL.Env → O := sIf (sOr (sB (sBin gNe (sCall F_count_ropes (sCons (sVar 4) (sCons (sCst (.int 1)) sNil))) (sCst (.int 1)))) (sOr (sB (sBin gNe (sCall F_count_ropes (sCons (sCst (.int 1)) (sCons (sIte (sB (sBin (gOrd .lt) (sVar 4) (sCst (.int 12)))) (sBin gAdd (sCst (.int 1)) (sBin gFdiv (sVar 4) (sCst (.int 2)))) (sCst (.int 6))) sNil))) (sIte (sB (sBin (gOrd .lt) (sVar 4) (sCst (.int 12)))) (sBin gAdd (sCst (.int 1)) (sBin gFdiv (sVar 4) (sCst (.int 2)))) (sCst (.int 6))))) (sB (sBin gNe (sCall F_count_with (sCons (sTup (sCons (sVar 4) sNil)) sNil)) (sCst (.int 1)))))) (sRet (sCst (.bool false))) sNx
def g_law_3_6 : PL.Env → O := sIf (sAnd (sB (sBin (gOrd .gt) (sVar 4) (sCst (.int 1)))) (sOr (sB (sBin gNe (sCall F_count_with (sCons (sTup (sCons (sCst (.int 1)) (sCons (sBin gSub (sVar 4) (sCst (.int 1))) sNil))) sNil)) (sCst (.int 1)))) (sAnd (sB (sBin (gOrd .gt) (sVar 4) (sCst (.int 2)))) (sB (sBin gNe (sCall F_count_with (sCons (sTup (sCons (sCst (.int 2)) (sCons (sBin gSub (sVar 4) (sCst (.int 2))) sNil))) sNil)) (sBin gFdiv (sVar 4) (sCst (.int 2)))))))) (sRet (sCst (.bool false))) sNx
def g_law_3_7_0_0 : PL.Env → O := sIf (sB (sBin gNe (sCall F_count_ropes (sCons (sVar 4) (sCons (sVar 11) sNil))) (sBin gAdd (sBin gFdiv (sBin gSub (sCall F__law_power (sCons (sVar 11) (sCons (sVar 4) sNil))) (sVar 11)) (sVar 4)) (sVar 11)))) (sRet (sCst (.bool false))) sNx
def g_law_3_7_0 : PL.Env → O := sFor (sRg rg2 (sCons (sCst (.int 1)) (sCons (sCst (.int 7)) sNil))) (pOne 11) g_law_3_7_0_0
def g_law_3_7 : PL.Env → O := sIf (sB (sBin gIn (sVar 4) (sTup (sCons (sCst (.int 2)) (sCons (sCst (.int 3)) (sCons (sCst (.int 5)) (sCons (sCst (.int 7)) (sCons (sCst (.int 11)) sNil)))))))) g_law_3_7_0 sNx
def g_law_3 : PL.Env → O := sFor (sRg rg2 (sCons (sCst (.int 1)) (sCons (sCst (.int 13)) sNil))) (pOne 4) (sSeq g_law_3_0 (sSeq g_law_3_1 (sSeq g_law_3_2 (sSeq g_law_3_3 (sSeq g_law_3_4 (sSeq g_law_3_5 (sSeq g_law_3_6 g_law_3_7)))))))
def g_law_4 : PL.Env → O := sRet (sAndV (sBin gEq (sCall F_ropes_with (sCons (sTup (sCons (sCst (.int 8)) sNil)) sNil)) (sTup (sCons (sBin gMulT (sTup (sCons (sCst (.str "a")) sNil)) (sCst (.int 8))) sNil))) (sAndV (sBin gEq (sCb bLen (sCons (sCall F_ropes_with (sCons (sTup (sCons (sCst (.int 1)) (sCons (sCst (.int 7)) sNil))) sNil)) sNil)) (sCst (.int 1))) (sBin gEq (sCall F_count_ropes (sCons (sCst (.int 6)) (sCons (sCst (.int 2)) sNil))) (sCst (.int 14)))))
def g_law : PL.Env → O := sSeq g_law_0 (sSeq g_law_1 (sSeq g_law_2 (sSeq g_law_3 g_law_4)))
def F_law : List Int → List D → R D := bodyR 12 g_law
structure Txt (K : PySem.W.Frag) (mg : Str → Option Value) : Type where
  (a__law_draws : Addr) (d__law_draws : FuncData) (F__law_draws : Fun K "_law_draws" "_law_draws" st__law_draws a__law_draws d__law_draws) (m__law_draws : mg "_law_draws" = some (.ref a__law_draws)) (k__law_draws : PySem.W.keepIn K (.ref a__law_draws) = true) (b__law_draws : Binds K d__law_draws (["script", "many"] : List Str) [])
  (a__law_power : Addr) (d__law_power : FuncData) (F__law_power : Fun K "_law_power" "_law_power" st__law_power a__law_power d__law_power) (m__law_power : mg "_law_power" = some (.ref a__law_power)) (k__law_power : PySem.W.keepIn K (.ref a__law_power) = true) (b__law_power : Binds K d__law_power (["one", "count"] : List Str) [])
  (a_is_whole : Addr) (d_is_whole : FuncData) (F_is_whole : Fun K "is_whole" "is_whole" st_is_whole a_is_whole d_is_whole) (m_is_whole : mg "is_whole" = some (.ref a_is_whole)) (k_is_whole : PySem.W.keepIn K (.ref a_is_whole) = true) (b_is_whole : Binds K d_is_whole (["value", "least", "most"] : List Str) [])
  (a__check_counts : Addr) (d__check_counts : FuncData) (F__check_counts : Fun K "_check_counts" "_check_counts" st__check_counts a__check_counts d__check_counts) (m__check_counts : mg "_check_counts" = some (.ref a__check_counts)) (k__check_counts : PySem.W.keepIn K (.ref a__check_counts) = true) (b__check_counts : Binds K d__check_counts (["counts"] : List Str) [])
  (a__rows : Addr) (d__rows : FuncData) (F__rows : Fun K "_rows" "_rows" st__rows a__rows d__rows) (m__rows : mg "_rows" = some (.ref a__rows)) (k__rows : PySem.W.keepIn K (.ref a__rows) = true) (b__rows : Binds K d__rows (["counts", "row"] : List Str) [])
  (a_ropes_with : Addr) (d_ropes_with : FuncData) (F_ropes_with : Fun K "ropes_with" "ropes_with" st_ropes_with a_ropes_with d_ropes_with) (m_ropes_with : mg "ropes_with" = some (.ref a_ropes_with)) (k_ropes_with : PySem.W.keepIn K (.ref a_ropes_with) = true) (b_ropes_with : Binds K d_ropes_with (["counts"] : List Str) [])
  (a__power : Addr) (d__power : FuncData) (F__power : Fun K "_power" "_power" st__power a__power d__power) (m__power : mg "_power" = some (.ref a__power)) (k__power : PySem.W.keepIn K (.ref a__power) = true) (b__power : Binds K d__power (["one", "times"] : List Str) [])
  (a_divisor : Addr) (d_divisor : FuncData) (F_divisor : Fun K "divisor" "divisor" st_divisor a_divisor d_divisor) (m_divisor : mg "divisor" = some (.ref a_divisor)) (k_divisor : PySem.W.keepIn K (.ref a_divisor) = true) (b_divisor : Binds K d_divisor (["one", "other"] : List Str) [])
  (a_count_ropes : Addr) (d_count_ropes : FuncData) (F_count_ropes : Fun K "count_ropes" "count_ropes" st_count_ropes a_count_ropes d_count_ropes) (m_count_ropes : mg "count_ropes" = some (.ref a_count_ropes)) (k_count_ropes : PySem.W.keepIn K (.ref a_count_ropes) = true) (b_count_ropes : Binds K d_count_ropes (["strands", "colours"] : List Str) [])
  (a_is_colour : Addr) (d_is_colour : FuncData) (F_is_colour : Fun K "is_colour" "is_colour" st_is_colour a_is_colour d_is_colour) (m_is_colour : mg "is_colour" = some (.ref a_is_colour)) (k_is_colour : PySem.W.keepIn K (.ref a_is_colour) = true) (b_is_colour : Binds K d_is_colour (["value"] : List Str) [])
  (a_is_turn : Addr) (d_is_turn : FuncData) (F_is_turn : Fun K "is_turn" "is_turn" st_is_turn a_is_turn d_is_turn) (m_is_turn : mg "is_turn" = some (.ref a_is_turn)) (k_is_turn : PySem.W.keepIn K (.ref a_is_turn) = true) (b_is_turn : Binds K d_is_turn (["value"] : List Str) [])
  (a_is_integer : Addr) (d_is_integer : FuncData) (F_is_integer : Fun K "is_integer" "is_integer" st_is_integer a_is_integer d_is_integer) (m_is_integer : mg "is_integer" = some (.ref a_is_integer)) (k_is_integer : PySem.W.keepIn K (.ref a_is_integer) = true) (b_is_integer : Binds K d_is_integer (["value"] : List Str) [])
  (a_is_quotient : Addr) (d_is_quotient : FuncData) (F_is_quotient : Fun K "is_quotient" "is_quotient" st_is_quotient a_is_quotient d_is_quotient) (m_is_quotient : mg "is_quotient" = some (.ref a_is_quotient)) (k_is_quotient : PySem.W.keepIn K (.ref a_is_quotient) = true) (b_is_quotient : Binds K d_is_quotient (["value"] : List Str) [])
  (a_is_less : Addr) (d_is_less : FuncData) (F_is_less : Fun K "is_less" "is_less" st_is_less a_is_less d_is_less) (m_is_less : mg "is_less" = some (.ref a_is_less)) (k_is_less : PySem.W.keepIn K (.ref a_is_less) = true) (b_is_less : Binds K d_is_less (["one", "other"] : List Str) [])
  (a_is_lay : Addr) (d_is_lay : FuncData) (F_is_lay : Fun K "is_lay" "is_lay" st_is_lay a_is_lay d_is_lay) (m_is_lay : mg "is_lay" = some (.ref a_is_lay)) (k_is_lay : PySem.W.keepIn K (.ref a_is_lay) = true) (b_is_lay : Binds K d_is_lay (["value"] : List Str) [])
  (a__is_within : Addr) (d__is_within : FuncData) (F__is_within : Fun K "_is_within" "_is_within" st__is_within a__is_within d__is_within) (m__is_within : mg "_is_within" = some (.ref a__is_within)) (k__is_within : PySem.W.keepIn K (.ref a__is_within) = true) (b__is_within : Binds K d__is_within (["value", "room"] : List Str) [])
  (a__are_parts : Addr) (d__are_parts : FuncData) (F__are_parts : Fun K "_are_parts" "_are_parts" st__are_parts a__are_parts d__are_parts) (m__are_parts : mg "_are_parts" = some (.ref a__are_parts)) (k__are_parts : PySem.W.keepIn K (.ref a__are_parts) = true) (b__are_parts : Binds K d__are_parts (["value", "room"] : List Str) [])
  (a__things : Addr) (d__things : FuncData) (F__things : Fun K "_things" "_things" st__things a__things d__things) (m__things : mg "_things" = some (.ref a__things)) (k__things : PySem.W.keepIn K (.ref a__things) = true) (b__things : Binds K d__things (["rope"] : List Str) [])
  (a_is_rope : Addr) (d_is_rope : FuncData) (F_is_rope : Fun K "is_rope" "is_rope" st_is_rope a_is_rope d_is_rope) (m_is_rope : mg "is_rope" = some (.ref a_is_rope)) (k_is_rope : PySem.W.keepIn K (.ref a_is_rope) = true) (b_is_rope : Binds K d_is_rope (["value"] : List Str) [])
  (a__check : Addr) (d__check : FuncData) (F__check : Fun K "_check" "_check" st__check a__check d__check) (m__check : mg "_check" = some (.ref a__check)) (k__check : PySem.W.keepIn K (.ref a__check) = true) (b__check : Binds K d__check (["rope"] : List Str) [])
  (a__yarns : Addr) (d__yarns : FuncData) (F__yarns : Fun K "_yarns" "_yarns" st__yarns a__yarns d__yarns) (m__yarns : mg "_yarns" = some (.ref a__yarns)) (k__yarns : PySem.W.keepIn K (.ref a__yarns) = true) (b__yarns : Binds K d__yarns (["rope"] : List Str) [])
  (a_yarns_of : Addr) (d_yarns_of : FuncData) (F_yarns_of : Fun K "yarns_of" "yarns_of" st_yarns_of a_yarns_of d_yarns_of) (m_yarns_of : mg "yarns_of" = some (.ref a_yarns_of)) (k_yarns_of : PySem.W.keepIn K (.ref a_yarns_of) = true) (b_yarns_of : Binds K d_yarns_of (["rope"] : List Str) [])
  (a_is_hard : Addr) (d_is_hard : FuncData) (F_is_hard : Fun K "is_hard" "is_hard" st_is_hard a_is_hard d_is_hard) (m_is_hard : mg "is_hard" = some (.ref a_is_hard)) (k_is_hard : PySem.W.keepIn K (.ref a_is_hard) = true) (b_is_hard : Binds K d_is_hard (["rope"] : List Str) [])
  (a_check_length : Addr) (d_check_length : FuncData) (F_check_length : Fun K "check_length" "check_length" st_check_length a_check_length d_check_length) (m_check_length : mg "check_length" = some (.ref a_check_length)) (k_check_length : PySem.W.keepIn K (.ref a_check_length) = true) (b_check_length : Binds K d_check_length (["length"] : List Str) [])
  (a_quotient : Addr) (d_quotient : FuncData) (F_quotient : Fun K "quotient" "quotient" st_quotient a_quotient d_quotient) (m_quotient : mg "quotient" = some (.ref a_quotient)) (k_quotient : PySem.W.keepIn K (.ref a_quotient) = true) (b_quotient : Binds K d_quotient (["up", "down"] : List Str) [])
  (a_times : Addr) (d_times : FuncData) (F_times : Fun K "times" "times" st_times a_times d_times) (m_times : mg "times" = some (.ref a_times)) (k_times : PySem.W.keepIn K (.ref a_times) = true) (b_times : Binds K d_times (["one", "other"] : List Str) [])
  (a_over : Addr) (d_over : FuncData) (F_over : Fun K "over" "over" st_over a_over d_over) (m_over : mg "over" = some (.ref a_over)) (k_over : PySem.W.keepIn K (.ref a_over) = true) (b_over : Binds K d_over (["one", "other"] : List Str) [])
  (a_plus : Addr) (d_plus : FuncData) (F_plus : Fun K "plus" "plus" st_plus a_plus d_plus) (m_plus : mg "plus" = some (.ref a_plus)) (k_plus : PySem.W.keepIn K (.ref a_plus) = true) (b_plus : Binds K d_plus (["one", "other"] : List Str) [])
  (a__turns : Addr) (d__turns : FuncData) (F__turns : Fun K "_turns" "_turns" st__turns a__turns d__turns) (m__turns : mg "_turns" = some (.ref a__turns)) (k__turns : PySem.W.keepIn K (.ref a__turns) = true) (b__turns : Binds K d__turns (["rope", "ahead"] : List Str) [])
  (a_turns_in : Addr) (d_turns_in : FuncData) (F_turns_in : Fun K "turns_in" "turns_in" st_turns_in a_turns_in d_turns_in) (m_turns_in : mg "turns_in" = some (.ref a_turns_in)) (k_turns_in : PySem.W.keepIn K (.ref a_turns_in) = true) (b_turns_in : Binds K d_turns_in (["rope", "length"] : List Str) [])
  (a_is_quiet : Addr) (d_is_quiet : FuncData) (F_is_quiet : Fun K "is_quiet" "is_quiet" st_is_quiet a_is_quiet d_is_quiet) (m_is_quiet : mg "is_quiet" = some (.ref a_is_quiet)) (k_is_quiet : PySem.W.keepIn K (.ref a_is_quiet) = true) (b_is_quiet : Binds K d_is_quiet (["rope"] : List Str) [])
  (a__law_low : Addr) (d__law_low : FuncData) (F__law_low : Fun K "_law_low" "_law_low" st__law_low a__law_low d__law_low) (m__law_low : mg "_law_low" = some (.ref a__law_low)) (k__law_low : PySem.W.keepIn K (.ref a__law_low) = true) (b__law_low : Binds K d__law_low (["up", "down"] : List Str) [])
  (a__check_take : Addr) (d__check_take : FuncData) (F__check_take : Fun K "_check_take" "_check_take" st__check_take a__check_take d__check_take) (m__check_take : mg "_check_take" = some (.ref a__check_take)) (k__check_take : PySem.W.keepIn K (.ref a__check_take) = true) (b__check_take : Binds K d__check_take (["take"] : List Str) [])
  (a__lengths : Addr) (d__lengths : FuncData) (F__lengths : Fun K "_lengths" "_lengths" st__lengths a__lengths d__lengths) (m__lengths : mg "_lengths" = some (.ref a__lengths)) (k__lengths : PySem.W.keepIn K (.ref a__lengths) = true) (b__lengths : Binds K d__lengths (["rope", "take", "length"] : List Str) [])
  (a__needed : Addr) (d__needed : FuncData) (F__needed : Fun K "_needed" "_needed" st__needed a__needed d__needed) (m__needed : mg "_needed" = some (.ref a__needed)) (k__needed : PySem.W.keepIn K (.ref a__needed) = true) (b__needed : Binds K d__needed (["rope", "take", "length"] : List Str) [])
  (a_needed : Addr) (d_needed : FuncData) (F_needed : Fun K "needed" "needed" st_needed a_needed d_needed) (m_needed : mg "needed" = some (.ref a_needed)) (k_needed : PySem.W.keepIn K (.ref a_needed) = true) (b_needed : Binds K d_needed (["rope", "take", "length"] : List Str) [])
  (a_ascends : Addr) (d_ascends : FuncData) (F_ascends : Fun K "ascends" "ascends" st_ascends a_ascends d_ascends) (m_ascends : mg "ascends" = some (.ref a_ascends)) (k_ascends : PySem.W.keepIn K (.ref a_ascends) = true) (b_ascends : Binds K d_ascends (["values"] : List Str) [])
  (a__is_kept : Addr) (d__is_kept : FuncData) (F__is_kept : Fun K "_is_kept" "_is_kept" st__is_kept a__is_kept d__is_kept) (m__is_kept : mg "_is_kept" = some (.ref a__is_kept)) (k__is_kept : PySem.W.keepIn K (.ref a__is_kept) = true) (b__is_kept : Binds K d__is_kept (["value"] : List Str) [])
  (a_longest : Addr) (d_longest : FuncData) (F_longest : Fun K "longest" "longest" st_longest a_longest d_longest) (m_longest : mg "longest" = some (.ref a_longest)) (k_longest : PySem.W.keepIn K (.ref a_longest) = true) (b_longest : Binds K d_longest (["rope", "take", "stock"] : List Str) [])
  (a_check_colours : Addr) (d_check_colours : FuncData) (F_check_colours : Fun K "check_colours" "check_colours" st_check_colours a_check_colours d_check_colours) (m_check_colours : mg "check_colours" = some (.ref a_check_colours)) (k_check_colours : PySem.W.keepIn K (.ref a_check_colours) = true) (b_check_colours : Binds K d_check_colours (["colours"] : List Str) [])
  (a__turned : Addr) (d__turned : FuncData) (F__turned : Fun K "_turned" "_turned" st__turned a__turned d__turned) (m__turned : mg "_turned" = some (.ref a__turned)) (k__turned : PySem.W.keepIn K (.ref a__turned) = true) (b__turned : Binds K d__turned (["colours", "steps"] : List Str) [])
  (a__least_steps : Addr) (d__least_steps : FuncData) (F__least_steps : Fun K "_least_steps" "_least_steps" st__least_steps a__least_steps d__least_steps) (m__least_steps : mg "_least_steps" = some (.ref a__least_steps)) (k__least_steps : PySem.W.keepIn K (.ref a__least_steps) = true) (b__least_steps : Binds K d__least_steps (["colours"] : List Str) [])
  (a_least_steps : Addr) (d_least_steps : FuncData) (F_least_steps : Fun K "least_steps" "least_steps" st_least_steps a_least_steps d_least_steps) (m_least_steps : mg "least_steps" = some (.ref a_least_steps)) (k_least_steps : PySem.W.keepIn K (.ref a_least_steps) = true) (b_least_steps : Binds K d_least_steps (["colours"] : List Str) [])
  (a__check_lay : Addr) (d__check_lay : FuncData) (F__check_lay : Fun K "_check_lay" "_check_lay" st__check_lay a__check_lay d__check_lay) (m__check_lay : mg "_check_lay" = some (.ref a__check_lay)) (k__check_lay : PySem.W.keepIn K (.ref a__check_lay) = true) (b__check_lay : Binds K d__check_lay (["lay"] : List Str) [])
  (a__again : Addr) (d__again : FuncData) (F__again : Fun K "_again" "_again" st__again a__again d__again) (m__again : mg "_again" = some (.ref a__again)) (k__again : PySem.W.keepIn K (.ref a__again) = true) (b__again : Binds K d__again (["colours", "lay"] : List Str) [])
  (a_comes_again : Addr) (d_comes_again : FuncData) (F_comes_again : Fun K "comes_again" "comes_again" st_comes_again a_comes_again d_comes_again) (m_comes_again : mg "comes_again" = some (.ref a_comes_again)) (k_comes_again : PySem.W.keepIn K (.ref a_comes_again) = true) (b_comes_again : Binds K d_comes_again (["colours", "lay"] : List Str) [])
  (a_both_again : Addr) (d_both_again : FuncData) (F_both_again : Fun K "both_again" "both_again" st_both_again a_both_again d_both_again) (m_both_again : mg "both_again" = some (.ref a_both_again)) (k_both_again : PySem.W.keepIn K (.ref a_both_again) = true) (b_both_again : Binds K d_both_again (["colours", "lay", "others", "other"] : List Str) [])
  (a__least_turned : Addr) (d__least_turned : FuncData) (F__least_turned : Fun K "_least_turned" "_least_turned" st__least_turned a__least_turned d__least_turned) (m__least_turned : mg "_least_turned" = some (.ref a__least_turned)) (k__least_turned : PySem.W.keepIn K (.ref a__least_turned) = true) (b__least_turned : Binds K d__least_turned (["colours"] : List Str) [])
  (a__mirrored : Addr) (d__mirrored : FuncData) (F__mirrored : Fun K "_mirrored" "_mirrored" st__mirrored a__mirrored d__mirrored) (m__mirrored : mg "_mirrored" = some (.ref a__mirrored)) (k__mirrored : PySem.W.keepIn K (.ref a__mirrored) = true) (b__mirrored : Binds K d__mirrored (["colours"] : List Str) [])
  (a_is_even_handed : Addr) (d_is_even_handed : FuncData) (F_is_even_handed : Fun K "is_even_handed" "is_even_handed" st_is_even_handed a_is_even_handed d_is_even_handed) (m_is_even_handed : mg "is_even_handed" = some (.ref a_is_even_handed)) (k_is_even_handed : PySem.W.keepIn K (.ref a_is_even_handed) = true) (b_is_even_handed : Binds K d_is_even_handed (["colours"] : List Str) [])
  (a_least_turned : Addr) (d_least_turned : FuncData) (F_least_turned : Fun K "least_turned" "least_turned" st_least_turned a_least_turned d_least_turned) (m_least_turned : mg "least_turned" = some (.ref a_least_turned)) (k_least_turned : PySem.W.keepIn K (.ref a_least_turned) = true) (b_least_turned : Binds K d_least_turned (["colours"] : List Str) [])
  (a_same_rope : Addr) (d_same_rope : FuncData) (F_same_rope : Fun K "same_rope" "same_rope" st_same_rope a_same_rope d_same_rope) (m_same_rope : mg "same_rope" = some (.ref a_same_rope)) (k_same_rope : PySem.W.keepIn K (.ref a_same_rope) = true) (b_same_rope : Binds K d_same_rope (["colours", "other"] : List Str) [])
  (a__orders : Addr) (d__orders : FuncData) (F__orders : Fun K "_orders" "_orders" st__orders a__orders d__orders) (m__orders : mg "_orders" = some (.ref a__orders)) (k__orders : PySem.W.keepIn K (.ref a__orders) = true) (b__orders : Binds K d__orders (["counts"] : List Str) [])
  (a_count_with : Addr) (d_count_with : FuncData) (F_count_with : Fun K "count_with" "count_with" st_count_with a_count_with d_count_with) (m_count_with : mg "count_with" = some (.ref a_count_with)) (k_count_with : PySem.W.keepIn K (.ref a_count_with) = true) (b_count_with : Binds K d_count_with (["counts"] : List Str) [])
  (a__turned_over : Addr) (d__turned_over : FuncData) (F__turned_over : Fun K "_turned_over" "_turned_over" st__turned_over a__turned_over d__turned_over) (m__turned_over : mg "_turned_over" = some (.ref a__turned_over)) (k__turned_over : PySem.W.keepIn K (.ref a__turned_over) = true) (b__turned_over : Binds K d__turned_over (["rope"] : List Str) [])
  (a_turned_over : Addr) (d_turned_over : FuncData) (F_turned_over : Fun K "turned_over" "turned_over" st_turned_over a_turned_over d_turned_over) (m_turned_over : mg "turned_over" = some (.ref a_turned_over)) (k_turned_over : PySem.W.keepIn K (.ref a_turned_over) = true) (b_turned_over : Binds K d_turned_over (["rope"] : List Str) [])
  (a_quiet_lay : Addr) (d_quiet_lay : FuncData) (F_quiet_lay : Fun K "quiet_lay" "quiet_lay" st_quiet_lay a_quiet_lay d_quiet_lay) (m_quiet_lay : mg "quiet_lay" = some (.ref a_quiet_lay)) (k_quiet_lay : PySem.W.keepIn K (.ref a_quiet_lay) = true) (b_quiet_lay : Binds K d_quiet_lay (["turn", "parts"] : List Str) [])
  (a_turned : Addr) (d_turned : FuncData) (F_turned : Fun K "turned" "turned" st_turned a_turned d_turned) (m_turned : mg "turned" = some (.ref a_turned)) (k_turned : PySem.W.keepIn K (.ref a_turned) = true) (b_turned : Binds K d_turned (["colours", "steps"] : List Str) [])
  (a_law : Addr) (d_law : FuncData) (F_law : Fun K "law" "law" st_law a_law d_law) (m_law : mg "law" = some (.ref a_law)) (k_law : PySem.W.keepIn K (.ref a_law) = true) (b_law : Binds K d_law (["script"] : List Str) [])
  (c_BadColourCount : Addr) (m_BadColourCount : mg "BadColourCount" = some (.ref c_BadColourCount)) (x_BadColourCount : PySem.W.excIn K c_BadColourCount [.type "ValueError", .type "Exception", .type "BaseException", .type "object"] "ValueError.__new__" = true) (k_BadColourCount : PySem.W.keepIn K (.ref c_BadColourCount) = true) (b_BadColourCount : PySem.W.subIn K (.ref c_BadColourCount) (.type "BaseException") = some true) (y_BadColourCount : PySem.W.typeIn K (.ref c_BadColourCount) = some (.type "type"))
  (c_BadColours : Addr) (m_BadColours : mg "BadColours" = some (.ref c_BadColours)) (x_BadColours : PySem.W.excIn K c_BadColours [.type "ValueError", .type "Exception", .type "BaseException", .type "object"] "ValueError.__new__" = true) (k_BadColours : PySem.W.keepIn K (.ref c_BadColours) = true) (b_BadColours : PySem.W.subIn K (.ref c_BadColours) (.type "BaseException") = some true) (y_BadColours : PySem.W.typeIn K (.ref c_BadColours) = some (.type "type"))
  (c_BadCounts : Addr) (m_BadCounts : mg "BadCounts" = some (.ref c_BadCounts)) (x_BadCounts : PySem.W.excIn K c_BadCounts [.type "ValueError", .type "Exception", .type "BaseException", .type "object"] "ValueError.__new__" = true) (k_BadCounts : PySem.W.keepIn K (.ref c_BadCounts) = true) (b_BadCounts : PySem.W.subIn K (.ref c_BadCounts) (.type "BaseException") = some true) (y_BadCounts : PySem.W.typeIn K (.ref c_BadCounts) = some (.type "type"))
  (c_BadLay : Addr) (m_BadLay : mg "BadLay" = some (.ref c_BadLay)) (x_BadLay : PySem.W.excIn K c_BadLay [.type "ValueError", .type "Exception", .type "BaseException", .type "object"] "ValueError.__new__" = true) (k_BadLay : PySem.W.keepIn K (.ref c_BadLay) = true) (b_BadLay : PySem.W.subIn K (.ref c_BadLay) (.type "BaseException") = some true) (y_BadLay : PySem.W.typeIn K (.ref c_BadLay) = some (.type "type"))
  (c_BadLength : Addr) (m_BadLength : mg "BadLength" = some (.ref c_BadLength)) (x_BadLength : PySem.W.excIn K c_BadLength [.type "ValueError", .type "Exception", .type "BaseException", .type "object"] "ValueError.__new__" = true) (k_BadLength : PySem.W.keepIn K (.ref c_BadLength) = true) (b_BadLength : PySem.W.subIn K (.ref c_BadLength) (.type "BaseException") = some true) (y_BadLength : PySem.W.typeIn K (.ref c_BadLength) = some (.type "type"))
  (c_BadParts : Addr) (m_BadParts : mg "BadParts" = some (.ref c_BadParts)) (x_BadParts : PySem.W.excIn K c_BadParts [.type "ValueError", .type "Exception", .type "BaseException", .type "object"] "ValueError.__new__" = true) (k_BadParts : PySem.W.keepIn K (.ref c_BadParts) = true) (b_BadParts : PySem.W.subIn K (.ref c_BadParts) (.type "BaseException") = some true) (y_BadParts : PySem.W.typeIn K (.ref c_BadParts) = some (.type "type"))
  (c_BadSteps : Addr) (m_BadSteps : mg "BadSteps" = some (.ref c_BadSteps)) (x_BadSteps : PySem.W.excIn K c_BadSteps [.type "ValueError", .type "Exception", .type "BaseException", .type "object"] "ValueError.__new__" = true) (k_BadSteps : PySem.W.keepIn K (.ref c_BadSteps) = true) (b_BadSteps : PySem.W.subIn K (.ref c_BadSteps) (.type "BaseException") = some true) (y_BadSteps : PySem.W.typeIn K (.ref c_BadSteps) = some (.type "type"))
  (c_BadStock : Addr) (m_BadStock : mg "BadStock" = some (.ref c_BadStock)) (x_BadStock : PySem.W.excIn K c_BadStock [.type "ValueError", .type "Exception", .type "BaseException", .type "object"] "ValueError.__new__" = true) (k_BadStock : PySem.W.keepIn K (.ref c_BadStock) = true) (b_BadStock : PySem.W.subIn K (.ref c_BadStock) (.type "BaseException") = some true) (y_BadStock : PySem.W.typeIn K (.ref c_BadStock) = some (.type "type"))
  (c_BadStrandCount : Addr) (m_BadStrandCount : mg "BadStrandCount" = some (.ref c_BadStrandCount)) (x_BadStrandCount : PySem.W.excIn K c_BadStrandCount [.type "ValueError", .type "Exception", .type "BaseException", .type "object"] "ValueError.__new__" = true) (k_BadStrandCount : PySem.W.keepIn K (.ref c_BadStrandCount) = true) (b_BadStrandCount : PySem.W.subIn K (.ref c_BadStrandCount) (.type "BaseException") = some true) (y_BadStrandCount : PySem.W.typeIn K (.ref c_BadStrandCount) = some (.type "type"))
  (c_BadStrands : Addr) (m_BadStrands : mg "BadStrands" = some (.ref c_BadStrands)) (x_BadStrands : PySem.W.excIn K c_BadStrands [.type "ValueError", .type "Exception", .type "BaseException", .type "object"] "ValueError.__new__" = true) (k_BadStrands : PySem.W.keepIn K (.ref c_BadStrands) = true) (b_BadStrands : PySem.W.subIn K (.ref c_BadStrands) (.type "BaseException") = some true) (y_BadStrands : PySem.W.typeIn K (.ref c_BadStrands) = some (.type "type"))
  (c_BadTake : Addr) (m_BadTake : mg "BadTake" = some (.ref c_BadTake)) (x_BadTake : PySem.W.excIn K c_BadTake [.type "ValueError", .type "Exception", .type "BaseException", .type "object"] "ValueError.__new__" = true) (k_BadTake : PySem.W.keepIn K (.ref c_BadTake) = true) (b_BadTake : PySem.W.subIn K (.ref c_BadTake) (.type "BaseException") = some true) (y_BadTake : PySem.W.typeIn K (.ref c_BadTake) = some (.type "type"))
  (c_BadTurn : Addr) (m_BadTurn : mg "BadTurn" = some (.ref c_BadTurn)) (x_BadTurn : PySem.W.excIn K c_BadTurn [.type "ValueError", .type "Exception", .type "BaseException", .type "object"] "ValueError.__new__" = true) (k_BadTurn : PySem.W.keepIn K (.ref c_BadTurn) = true) (b_BadTurn : PySem.W.subIn K (.ref c_BadTurn) (.type "BaseException") = some true) (y_BadTurn : PySem.W.typeIn K (.ref c_BadTurn) = some (.type "type"))
  (c_TooMany : Addr) (m_TooMany : mg "TooMany" = some (.ref c_TooMany)) (x_TooMany : PySem.W.excIn K c_TooMany [.type "ValueError", .type "Exception", .type "BaseException", .type "object"] "ValueError.__new__" = true) (k_TooMany : PySem.W.keepIn K (.ref c_TooMany) = true) (b_TooMany : PySem.W.subIn K (.ref c_TooMany) (.type "BaseException") = some true) (y_TooMany : PySem.W.typeIn K (.ref c_TooMany) = some (.type "type"))
  (t_LETTERS_counting : Tok) (m_LETTERS_counting : mg "LETTERS_counting" = some (.str "abcdef" t_LETTERS_counting))
  (t_LETTERS_strands : Tok) (m_LETTERS_strands : mg "LETTERS_strands" = some (.str "abcdefghijklmnopqrstuvwxyz" t_LETTERS_strands))
  (t_MOST_COLOURS : Tok) (m_MOST_COLOURS : mg "MOST_COLOURS" = some (.int 6 t_MOST_COLOURS))
  (t_MOST_LENGTH : Tok) (m_MOST_LENGTH : mg "MOST_LENGTH" = some (.int 1000 t_MOST_LENGTH))
  (t_MOST_LETTERS : Tok) (m_MOST_LETTERS : mg "MOST_LETTERS" = some (.int 8 t_MOST_LETTERS))
  (t_MOST_LISTED : Tok) (m_MOST_LISTED : mg "MOST_LISTED" = some (.int 8 t_MOST_LISTED))
  (t_MOST_PARTS : Tok) (m_MOST_PARTS : mg "MOST_PARTS" = some (.int 6 t_MOST_PARTS))
  (t_MOST_STOCK : Tok) (m_MOST_STOCK : mg "MOST_STOCK" = some (.int 100000 t_MOST_STOCK))
  (t_MOST_STRANDS : Tok) (m_MOST_STRANDS : mg "MOST_STRANDS" = some (.int 12 t_MOST_STRANDS))
  (t_MOST_THINGS : Tok) (m_MOST_THINGS : mg "MOST_THINGS" = some (.int 60 t_MOST_THINGS))
  (t_MOST_WITHIN : Tok) (m_MOST_WITHIN : mg "MOST_WITHIN" = some (.int 6 t_MOST_WITHIN))
  (t_YARN : Tok) (m_YARN : mg "YARN" = some (.str "yarn" t_YARN))
  (p_NOTHING : Addr) (m_NOTHING : mg "NOTHING" = some (.ref p_NOTHING)) (g_NOTHING : GTup K p_NOTHING [.int 0, .int 1])
  (p_ONE : Addr) (m_ONE : mg "ONE" = some (.ref p_ONE)) (g_ONE : GTup K p_ONE [.int 1, .int 1])
  (p_TURNS : Addr) (m_TURNS : mg "TURNS" = some (.ref p_TURNS)) (g_TURNS : GTup K p_TURNS [.str "s", .str "z"])
  (n_abs : mg "abs" = none)
  (n_all : mg "all" = none)
  (n_any : mg "any" = none)
  (n_bool : mg "bool" = none)
  (n_dict : mg "dict" = none)
  (n_enumerate : mg "enumerate" = none)
  (n_int : mg "int" = none)
  (n_isinstance : mg "isinstance" = none)
  (n_len : mg "len" = none)
  (n_list : mg "list" = none)
  (n_min : mg "min" = none)
  (n_range : mg "range" = none)
  (n_sorted : mg "sorted" = none)
  (n_str : mg "str" = none)
  (n_sum : mg "sum" = none)
  (n_tuple : mg "tuple" = none)
  (n_zip : mg "zip" = none)
section
variable {P : Program} {w : World} {K : PySem.W.Frag} {mg : Str → Option Value} {base : Heap}
theorem sc__law_draws : FnScope (["script", "many", "draws", "seed", "cell", "number", "k"] : List Str) (["script", "many"] : List Str) (defScope st__law_draws) := ⟨rfl, rfl, rfl, by decide +kernel, rfl, by decide +kernel, by decide +kernel⟩
theorem sc__law_power : FnScope (["one", "count", "found", "k"] : List Str) (["one", "count"] : List Str) (defScope st__law_power) := ⟨rfl, rfl, rfl, by decide +kernel, rfl, by decide +kernel, by decide +kernel⟩
theorem sc_is_whole : FnScope (["value", "least", "most"] : List Str) (["value", "least", "most"] : List Str) (defScope st_is_whole) := ⟨rfl, rfl, rfl, by decide +kernel, rfl, by decide +kernel, by decide +kernel⟩
theorem sc__check_counts : FnScope (["counts", "one"] : List Str) (["counts"] : List Str) (defScope st__check_counts) := ⟨rfl, rfl, rfl, by decide +kernel, rfl, by decide +kernel, by decide +kernel⟩
theorem sc__rows : FnScope (["counts", "row", "found", "number", "count", "rest"] : List Str) (["counts", "row"] : List Str) (defScope st__rows) := ⟨rfl, rfl, rfl, by decide +kernel, rfl, by decide +kernel, by decide +kernel⟩
theorem sc_ropes_with : FnScope (["counts", "first", "rows", "row", "at"] : List Str) (["counts"] : List Str) (defScope st_ropes_with) := ⟨rfl, rfl, rfl, by decide +kernel, rfl, by decide +kernel, by decide +kernel⟩
theorem sc__power : FnScope (["one", "times", "found", "_turn"] : List Str) (["one", "times"] : List Str) (defScope st__power) := ⟨rfl, rfl, rfl, by decide +kernel, rfl, by decide +kernel, by decide +kernel⟩
theorem sc_divisor : FnScope (["one", "other"] : List Str) (["one", "other"] : List Str) (defScope st_divisor) := ⟨rfl, rfl, rfl, by decide +kernel, rfl, by decide +kernel, by decide +kernel⟩
theorem sc_count_ropes : FnScope (["strands", "colours", "steps"] : List Str) (["strands", "colours"] : List Str) (defScope st_count_ropes) := ⟨rfl, rfl, rfl, by decide +kernel, rfl, by decide +kernel, by decide +kernel⟩
theorem sc_is_colour : FnScope (["value", "sign"] : List Str) (["value"] : List Str) (defScope st_is_colour) := ⟨rfl, rfl, rfl, by decide +kernel, rfl, by decide +kernel, by decide +kernel⟩
theorem sc_is_turn : FnScope (["value"] : List Str) (["value"] : List Str) (defScope st_is_turn) := ⟨rfl, rfl, rfl, by decide +kernel, rfl, by decide +kernel, by decide +kernel⟩
theorem sc_is_integer : FnScope (["value"] : List Str) (["value"] : List Str) (defScope st_is_integer) := ⟨rfl, rfl, rfl, by decide +kernel, rfl, by decide +kernel, by decide +kernel⟩
theorem sc_is_quotient : FnScope (["value"] : List Str) (["value"] : List Str) (defScope st_is_quotient) := ⟨rfl, rfl, rfl, by decide +kernel, rfl, by decide +kernel, by decide +kernel⟩
theorem sc_is_less : FnScope (["one", "other"] : List Str) (["one", "other"] : List Str) (defScope st_is_less) := ⟨rfl, rfl, rfl, by decide +kernel, rfl, by decide +kernel, by decide +kernel⟩
theorem sc_is_lay : FnScope (["value"] : List Str) (["value"] : List Str) (defScope st_is_lay) := ⟨rfl, rfl, rfl, by decide +kernel, rfl, by decide +kernel, by decide +kernel⟩
theorem sc__is_within : FnScope (["value", "room"] : List Str) (["value", "room"] : List Str) (defScope st__is_within) := ⟨rfl, rfl, rfl, by decide +kernel, rfl, by decide +kernel, by decide +kernel⟩
theorem sc__are_parts : FnScope (["value", "room", "part"] : List Str) (["value", "room"] : List Str) (defScope st__are_parts) := ⟨rfl, rfl, rfl, by decide +kernel, rfl, by decide +kernel, by decide +kernel⟩
theorem sc__things : FnScope (["rope", "found", "part"] : List Str) (["rope"] : List Str) (defScope st__things) := ⟨rfl, rfl, rfl, by decide +kernel, rfl, by decide +kernel, by decide +kernel⟩
theorem sc_is_rope : FnScope (["value"] : List Str) (["value"] : List Str) (defScope st_is_rope) := ⟨rfl, rfl, rfl, by decide +kernel, rfl, by decide +kernel, by decide +kernel⟩
theorem sc__check : FnScope (["rope"] : List Str) (["rope"] : List Str) (defScope st__check) := ⟨rfl, rfl, rfl, by decide +kernel, rfl, by decide +kernel, by decide +kernel⟩
theorem sc__yarns : FnScope (["rope", "one"] : List Str) (["rope"] : List Str) (defScope st__yarns) := ⟨rfl, rfl, rfl, by decide +kernel, rfl, by decide +kernel, by decide +kernel⟩
theorem sc_yarns_of : FnScope (["rope"] : List Str) (["rope"] : List Str) (defScope st_yarns_of) := ⟨rfl, rfl, rfl, by decide +kernel, rfl, by decide +kernel, by decide +kernel⟩
theorem sc_is_hard : FnScope (["rope", "one", "part"] : List Str) (["rope"] : List Str) (defScope st_is_hard) := ⟨rfl, rfl, rfl, by decide +kernel, rfl, by decide +kernel, by decide +kernel⟩
theorem sc_check_length : FnScope (["length"] : List Str) (["length"] : List Str) (defScope st_check_length) := ⟨rfl, rfl, rfl, by decide +kernel, rfl, by decide +kernel, by decide +kernel⟩
theorem sc_quotient : FnScope (["up", "down", "size"] : List Str) (["up", "down"] : List Str) (defScope st_quotient) := ⟨rfl, rfl, rfl, by decide +kernel, rfl, by decide +kernel, by decide +kernel⟩
theorem sc_times : FnScope (["one", "other"] : List Str) (["one", "other"] : List Str) (defScope st_times) := ⟨rfl, rfl, rfl, by decide +kernel, rfl, by decide +kernel, by decide +kernel⟩
theorem sc_over : FnScope (["one", "other"] : List Str) (["one", "other"] : List Str) (defScope st_over) := ⟨rfl, rfl, rfl, by decide +kernel, rfl, by decide +kernel, by decide +kernel⟩
theorem sc_plus : FnScope (["one", "other"] : List Str) (["one", "other"] : List Str) (defScope st_plus) := ⟨rfl, rfl, rfl, by decide +kernel, rfl, by decide +kernel, by decide +kernel⟩
theorem sc__turns : FnScope (["rope", "ahead", "own", "here", "found", "part"] : List Str) (["rope", "ahead"] : List Str) (defScope st__turns) := ⟨rfl, rfl, rfl, by decide +kernel, rfl, by decide +kernel, by decide +kernel⟩
theorem sc_turns_in : FnScope (["rope", "length", "one"] : List Str) (["rope", "length"] : List Str) (defScope st_turns_in) := ⟨rfl, rfl, rfl, by decide +kernel, rfl, by decide +kernel, by decide +kernel⟩
theorem sc_is_quiet : FnScope (["rope", "one"] : List Str) (["rope"] : List Str) (defScope st_is_quiet) := ⟨rfl, rfl, rfl, by decide +kernel, rfl, by decide +kernel, by decide +kernel⟩
theorem sc__law_low : FnScope (["up", "down", "one", "other"] : List Str) (["up", "down"] : List Str) (defScope st__law_low) := ⟨rfl, rfl, rfl, by decide +kernel, rfl, by decide +kernel, by decide +kernel⟩
theorem sc__check_take : FnScope (["take"] : List Str) (["take"] : List Str) (defScope st__check_take) := ⟨rfl, rfl, rfl, by decide +kernel, rfl, by decide +kernel, by decide +kernel⟩
theorem sc__lengths : FnScope (["rope", "take", "length", "found", "part"] : List Str) (["rope", "take", "length"] : List Str) (defScope st__lengths) := ⟨rfl, rfl, rfl, by decide +kernel, rfl, by decide +kernel, by decide +kernel⟩
theorem sc__needed : FnScope (["rope", "take", "length", "found", "colour", "own"] : List Str) (["rope", "take", "length"] : List Str) (defScope st__needed) := ⟨rfl, rfl, rfl, by decide +kernel, rfl, by decide +kernel, by decide +kernel⟩
theorem sc_needed : FnScope (["rope", "take", "length", "wanted", "colour"] : List Str) (["rope", "take", "length"] : List Str) (defScope st_needed) := ⟨rfl, rfl, rfl, by decide +kernel, rfl, by decide +kernel, by decide +kernel⟩
theorem sc_ascends : FnScope (["values", "one", "later"] : List Str) (["values"] : List Str) (defScope st_ascends) := ⟨rfl, rfl, rfl, by decide +kernel, rfl, by decide +kernel, by decide +kernel⟩
theorem sc__is_kept : FnScope (["value"] : List Str) (["value"] : List Str) (defScope st__is_kept) := ⟨rfl, rfl, rfl, by decide +kernel, rfl, by decide +kernel, by decide +kernel⟩
theorem sc_longest : FnScope (["rope", "take", "stock", "one", "colour", "_much", "there", "wanted", "rows", "best", "row"] : List Str) (["rope", "take", "stock"] : List Str) (defScope st_longest) := ⟨rfl, rfl, rfl, by decide +kernel, rfl, by decide +kernel, by decide +kernel⟩
theorem sc_check_colours : FnScope (["colours", "one"] : List Str) (["colours"] : List Str) (defScope st_check_colours) := ⟨rfl, rfl, rfl, by decide +kernel, rfl, by decide +kernel, by decide +kernel⟩
theorem sc__turned : FnScope (["colours", "steps", "at"] : List Str) (["colours", "steps"] : List Str) (defScope st__turned) := ⟨rfl, rfl, rfl, by decide +kernel, rfl, by decide +kernel, by decide +kernel⟩
theorem sc__least_steps : FnScope (["colours", "steps"] : List Str) (["colours"] : List Str) (defScope st__least_steps) := ⟨rfl, rfl, rfl, by decide +kernel, rfl, by decide +kernel, by decide +kernel⟩
theorem sc_least_steps : FnScope (["colours"] : List Str) (["colours"] : List Str) (defScope st_least_steps) := ⟨rfl, rfl, rfl, by decide +kernel, rfl, by decide +kernel, by decide +kernel⟩
theorem sc__check_lay : FnScope (["lay"] : List Str) (["lay"] : List Str) (defScope st__check_lay) := ⟨rfl, rfl, rfl, by decide +kernel, rfl, by decide +kernel, by decide +kernel⟩
theorem sc__again : FnScope (["colours", "lay"] : List Str) (["colours", "lay"] : List Str) (defScope st__again) := ⟨rfl, rfl, rfl, by decide +kernel, rfl, by decide +kernel, by decide +kernel⟩
theorem sc_comes_again : FnScope (["colours", "lay"] : List Str) (["colours", "lay"] : List Str) (defScope st_comes_again) := ⟨rfl, rfl, rfl, by decide +kernel, rfl, by decide +kernel, by decide +kernel⟩
theorem sc_both_again : FnScope (["colours", "lay", "others", "other", "one", "two", "ratio"] : List Str) (["colours", "lay", "others", "other"] : List Str) (defScope st_both_again) := ⟨rfl, rfl, rfl, by decide +kernel, rfl, by decide +kernel, by decide +kernel⟩
theorem sc__least_turned : FnScope (["colours", "steps"] : List Str) (["colours"] : List Str) (defScope st__least_turned) := ⟨rfl, rfl, rfl, by decide +kernel, rfl, by decide +kernel, by decide +kernel⟩
theorem sc__mirrored : FnScope (["colours"] : List Str) (["colours"] : List Str) (defScope st__mirrored) := ⟨rfl, rfl, rfl, by decide +kernel, rfl, by decide +kernel, by decide +kernel⟩
theorem sc_is_even_handed : FnScope (["colours"] : List Str) (["colours"] : List Str) (defScope st_is_even_handed) := ⟨rfl, rfl, rfl, by decide +kernel, rfl, by decide +kernel, by decide +kernel⟩
theorem sc_least_turned : FnScope (["colours"] : List Str) (["colours"] : List Str) (defScope st_least_turned) := ⟨rfl, rfl, rfl, by decide +kernel, rfl, by decide +kernel, by decide +kernel⟩
theorem sc_same_rope : FnScope (["colours", "other"] : List Str) (["colours", "other"] : List Str) (defScope st_same_rope) := ⟨rfl, rfl, rfl, by decide +kernel, rfl, by decide +kernel, by decide +kernel⟩
theorem sc__orders : FnScope (["counts", "found", "placed", "count", "one"] : List Str) (["counts"] : List Str) (defScope st__orders) := ⟨rfl, rfl, rfl, by decide +kernel, rfl, by decide +kernel, by decide +kernel⟩
theorem sc_count_with : FnScope (["counts", "strands", "total", "steps", "size", "count"] : List Str) (["counts"] : List Str) (defScope st_count_with) := ⟨rfl, rfl, rfl, by decide +kernel, rfl, by decide +kernel, by decide +kernel⟩
theorem sc__turned_over : FnScope (["rope", "part"] : List Str) (["rope"] : List Str) (defScope st__turned_over) := ⟨rfl, rfl, rfl, by decide +kernel, rfl, by decide +kernel, by decide +kernel⟩
theorem sc_turned_over : FnScope (["rope"] : List Str) (["rope"] : List Str) (defScope st_turned_over) := ⟨rfl, rfl, rfl, by decide +kernel, rfl, by decide +kernel, by decide +kernel⟩
theorem sc_quiet_lay : FnScope (["turn", "parts", "part", "found", "one", "own", "lay"] : List Str) (["turn", "parts"] : List Str) (defScope st_quiet_lay) := ⟨rfl, rfl, rfl, by decide +kernel, rfl, by decide +kernel, by decide +kernel⟩
theorem sc_turned : FnScope (["colours", "steps"] : List Str) (["colours", "steps"] : List Str) (defScope st_turned) := ⟨rfl, rfl, rfl, by decide +kernel, rfl, by decide +kernel, by decide +kernel⟩
theorem sc_law : FnScope (["script", "draws", "lay", "deep", "many", "rope", "k", "count", "plain", "unlike", "step", "kinds"] : List Str) (["script"] : List Str) (defScope st_law) := ⟨rfl, rfl, rfl, by decide +kernel, rfl, by decide +kernel, by decide +kernel⟩
theorem ok__law_draws (T : Txt K mg) : FnOk P w K mg base (L2.CX P w) 1 T.a__law_draws T.d__law_draws (["script", "many"] : List Str) (spR K mg (["script", "many"] : List Str).length F__law_draws) :=
  fn_okR T.F__law_draws sc__law_draws fun cdv A outer s H E hr tk hp => have hr : Room 0 _ := hr; have hu := units80 hr; have sc := sc__law_draws;
    fss_cons (fs_setN sc.nd (fn_lst fa_nil) (hx := (by first | exact Or.inl rfl | exact Or.inr rfl))) (
    fss_cons (fs_set true sc.nd fe_int (hx := (by first | exact Or.inl rfl | exact Or.inr rfl))) (
    fss_cons (fs_for hp (by rfl) (fi_any (FN.fe (fn_rawslice 0 fo_none (fo_some fe_int)))) (fg_one 4 sc.nd (by rfl) (by first | exact Or.inl rfl | exact Or.inr rfl)) (keeps_one 4) (
    fss_cons (fs_set true sc.nd (fe_cb cr_bAbs (by rfl) T.n_abs (by first | rfl | decide +kernel) (fa_cons (fe_var 4) fa_nil)) (hx := (by first | exact Or.inl rfl | exact Or.inr rfl))) (
    fss_cons (fs_set true sc.nd (fe_bin op_gMod (fe_cty cr_bInt (by rfl) T.n_int (by first | rfl | decide +kernel) (fa_cons (fe_bin op_gAdd (fe_bin op_gAdd (fe_bin op_gMulT (fe_var 3) fe_int) (fe_var 5)) fe_int) fa_nil)) fe_int) (hx := (by first | exact Or.inl rfl | exact Or.inr rfl))) (
    fss_one (fs_if (ft_cmp (op_gGe hu) (fe_var 5) (fe_bin op_gPow fe_int fe_int) (by first | exact nomark _ | rfl)) (fss_one (fs_for hp (by rfl) (fi_range1 (by rfl) T.n_range (fa_cons fe_int fa_nil)) (fg_one 6 sc.nd (by rfl) (by first | exact Or.inl rfl | exact Or.inr rfl)) (keeps_one 6) (
    fss_one (fs_if (ft_cmp (op_gGt hu) (fe_var 5) fe_int (by first | exact nomark _ | rfl)) (fss_cons (fs_append true (fe_bin op_gMod (fe_cty cr_bInt (by rfl) T.n_int (by first | rfl | decide +kernel) (fa_cons (fe_var 5) fa_nil)) fe_int)) (
    fss_one (fs_set true sc.nd (fe_bin op_gFdiv (fe_var 5) fe_int) (hx := (by first | exact Or.inl rfl | exact Or.inr rfl))))) fss_nil)))) (fss_one (fs_append true (fe_bin op_gMod (fe_bin op_gFdiv (fe_cty cr_bInt (by rfl) T.n_int (by first | rfl | decide +kernel) (fa_cons (fe_bin op_gAdd (fe_bin op_gMulT (fe_var 3) fe_int) fe_int) fa_nil)) fe_int) fe_int)))))))) (
    fss_cons (fs_for hp (by rfl) (fi_range1 (by rfl) T.n_range (fa_cons (fe_var 1) fa_nil)) (fg_one 6 sc.nd (by rfl) (by first | exact Or.inl rfl | exact Or.inr rfl)) (keeps_one 6) (
    fss_one (fs_if (ft_cmp (op_gLt hu) (fe_cb cr_bLen (by rfl) T.n_len (by first | rfl | decide +kernel) (fa_cons (fe_var 2) fa_nil)) (fe_var 1) (by first | exact nomark _ | rfl)) (fss_cons (fs_set true sc.nd (fe_bin op_gMod (fe_cty cr_bInt (by rfl) T.n_int (by first | rfl | decide +kernel) (fa_cons (fe_bin op_gAdd (fe_bin op_gAdd (fe_bin op_gMulT (fe_var 3) fe_int) (fe_var 6)) fe_int) fa_nil)) fe_int) (hx := (by first | exact Or.inl rfl | exact Or.inr rfl))) (
    fss_one (fs_append true (fe_bin op_gMod (fe_bin op_gFdiv (fe_cty cr_bInt (by rfl) T.n_int (by first | rfl | decide +kernel) (fa_cons (fe_var 3) fa_nil)) fe_int) fe_int)))) fss_nil))) (
    fss_one (fs_ret (fe_slice (fe_var 2) fo_none (fo_some (fe_var 1))))))))
theorem ok__law_power (T : Txt K mg) : FnOk P w K mg base (L2.CX P w) 1 T.a__law_power T.d__law_power (["one", "count"] : List Str) (spD K mg (["one", "count"] : List Str).length F__law_power) :=
  fn_okD T.F__law_power sc__law_power fun cdv A outer s H E hr tk hp => have hr : Room 0 _ := hr; have hu := units80 hr; have sc := sc__law_power;
    fss_cons (fs_set true sc.nd fe_int (hx := (by first | exact Or.inl rfl | exact Or.inr rfl))) (
    fss_cons (fs_for hp (by rfl) (fi_range1 (by rfl) T.n_range (fa_cons (fe_var 1) fa_nil)) (fg_one 3 sc.nd (by rfl) (by first | exact Or.inl rfl | exact Or.inr rfl)) (keeps_one 3) (
    fss_one (fs_set true sc.nd (fe_bin op_gMulT (fe_var 2) (fe_var 0)) (hx := (by first | exact Or.inl rfl | exact Or.inr rfl))))) (fss_one (fs_ret (fe_var 2))))
theorem ok_is_whole (T : Txt K mg) : FnOk P w K mg base (L2.CX P w) 1 T.a_is_whole T.d_is_whole (["value", "least", "most"] : List Str) (spD K mg (["value", "least", "most"] : List Str).length F_is_whole) :=
  fn_okD T.F_is_whole sc_is_whole fun cdv A outer s H E hr tk hp => have hr : Room 0 _ := hr; have hu := units80 hr; have sc := sc_is_whole;
    fss_one (fs_ret (fe_and (fe_isa (by rfl) T.n_isinstance (by first | rfl | decide +kernel) (by rfl) T.n_int (by first | rfl | decide +kernel) (fe_var 0)) (fe_and (fe_not (fe_isa (by rfl) T.n_isinstance (by first | rfl | decide +kernel) (by rfl) T.n_bool (by first | rfl | decide +kernel) (fe_var 0))) (fe_one (fe_chain (op_gLe hu) (op_gLe hu) (fe_var 1) (fe_var 0) (fe_var 2))))))
theorem ok__check_counts (T : Txt K mg) : FnOk P w K mg base (L2.CX P w) 2 T.a__check_counts T.d__check_counts (["counts"] : List Str) (spD K mg (["counts"] : List Str).length F__check_counts) :=
  fn_okD T.F__check_counts sc__check_counts fun cdv A outer s H E hr tk hp => have hr : Room 1 _ := hr; have hu := units80 hr; have sc := sc__check_counts;
    fss_cons (fs_if (FW.ft (fw_or (ft_not (ft_val (fe_isa (by rfl) T.n_isinstance (by first | rfl | decide +kernel) (by rfl) T.n_tuple (by first | rfl | decide +kernel) (fe_var 0)))) (fw_or1 (ft_not (ft_chain (op_gLe hu) (op_gLe hu) fe_int (fe_cb cr_bLen (by rfl) T.n_len (by first | rfl | decide +kernel) (fa_cons (fe_var 0) fa_nil)) (fe_gint (by rfl) T.m_MOST_COLOURS)))))) (fss_one (fs_raise (by rfl) tk PySem.F.excBase_ValueError T.x_BadCounts T.m_BadCounts T.k_BadCounts (raises_own T.b_BadCounts T.y_BadCounts) (by rfl))) fss_nil) (
    fss_one (fs_if (FW.ft (fw_or (ft_not (ft_val (fe_cb (cr_bAll (by rfl)) (by rfl) T.n_all (by first | rfl | decide +kernel) (fa_cons (FN.fe (fn_lc (by rfl) sc.nd (fi_any (fe_var 0)) (blkOk_by (own := [("one", 1)]) (by kernel_rfl)) (by decide) (fun _ _ _ _ _ => fg_one 1 sc.nd (by rfl) (by first | exact Or.inl rfl | exact Or.inr rfl)) (fun _ _ _ _ _ => fts_nil) (fun _ _ _ _ _ => fe_call (ok_is_whole T) (hr.mono (by decide)) tk0 (by rfl) T.m_is_whole T.k_is_whole T.b_is_whole (fa_cons (fe_var 1) (fa_cons fe_int (fa_cons (fe_gint (by rfl) T.m_MOST_STRANDS) fa_nil))) (fun ρ ds h => (sCons_len (sCons_len (sCons_len sNil_len))) ρ ds h)))) fa_nil)))) (fw_or1 (ft_cmp (op_gGt hu) (fe_cb (cr_bSum (by rfl)) (by rfl) T.n_sum (by first | rfl | decide +kernel) (fa_cons (fe_var 0) fa_nil)) (fe_gint (by rfl) T.m_MOST_STRANDS) (by first | exact nomark _ | rfl))))) (fss_one (fs_raise (by rfl) tk PySem.F.excBase_ValueError T.x_BadCounts T.m_BadCounts T.k_BadCounts (raises_own T.b_BadCounts T.y_BadCounts) (by rfl))) fss_nil))
theorem ok__rows (T : Txt K mg) : ∀ n : Nat, FnOk P w K mg base (L2.CX P w) (0 + n) T.a__rows T.d__rows (["counts", "row"] : List Str) (spD K mg (["counts", "row"] : List Str).length (F__rows n))
  | 0 => fn_bad
  | n + 1 => by
    have ih := ok__rows T n
    exact (fn_okD T.F__rows sc__rows fun cdv A outer s H E hr tk hp => have hu := units80 hr; have sc := sc__rows;
      fss_cons (fs_setN sc.nd (fn_lst fa_nil) (hx := (by first | exact Or.inl rfl | exact Or.inr rfl))) (
      fss_cons (fs_if (ft_cmp (op_gEq hu) (fe_cb (cr_bSum (by rfl)) (by rfl) T.n_sum (by first | rfl | decide +kernel) (fa_cons (fe_var 0) fa_nil)) fe_int (by first | exact nomark _ | rfl)) (fss_one (fs_ret (FN.fe (fn_lst (fa_cons (fe_var 1) fa_nil))))) fss_nil) (
      fss_cons (fs_for hp (by rfl) (fi_enum (by rfl) T.n_enumerate (fa_cons (fe_var 0) fa_nil)) (fg_tup (by rfl) (fgs_cons (fg_one 3 sc.nd (by rfl) (by first | exact Or.inl rfl | exact Or.inr rfl)) (fgs_cons (fg_one 4 sc.nd (by rfl) (by first | exact Or.inl rfl | exact Or.inr rfl)) fgs_nil))) (keeps_tup (keeps_cons (keeps_one 3) (keeps_cons (keeps_one 4) keeps_nil))) (
      fss_one (fs_if (ft_cmp (op_gGt hu) (fe_var 4) fe_int (by first | exact nomark _ | rfl)) (fss_cons (fs_set true sc.nd (fe_bin op_gAdd (fe_bin op_gAdd (fe_slice (fe_var 0) fo_none (fo_some (fe_var 3))) (FN.fe (fn_lst (fa_cons (fe_bin op_gSub (fe_var 4) fe_int) fa_nil)))) (fe_slice (fe_var 0) (fo_some (fe_bin op_gAdd (fe_var 3) fe_int)) fo_none)) (hx := (by first | exact Or.inl rfl | exact Or.inr rfl))) (
      fss_one (fs_extend true (fe_call (ih) (hr) tk (by rfl) T.m__rows T.k__rows T.b__rows (fa_cons (fe_var 5) (fa_cons (fe_bin op_gAdd (fe_var 1) (fe_tup (fa_cons (fe_ix ix_gIx (fe_gstr (by rfl) T.m_LETTERS_counting) (fe_var 3) (fun _ _ => by rfl)) fa_nil))) fa_nil)) (fun ρ ds h => (sCons_len (sCons_len sNil_len)) ρ ds h))))) fss_nil))) (fss_one (fs_ret (fe_var 2))))))
theorem ok_ropes_with (T : Txt K mg) : FnOk P w K mg base (L2.CX P w) 21 T.a_ropes_with T.d_ropes_with (["counts"] : List Str) (spD K mg (["counts"] : List Str).length F_ropes_with) :=
  fn_okD T.F_ropes_with sc_ropes_with fun cdv A outer s H E hr tk hp => have hr : Room 20 _ := hr; have hu := units80 hr; have sc := sc_ropes_with;
    fss_cons (fs_drop true (fe_call (ok__check_counts T) (hr.mono (by decide)) tk (by rfl) T.m__check_counts T.k__check_counts T.b__check_counts (fa_cons (fe_var 0) fa_nil) (fun ρ ds h => (sCons_len sNil_len) ρ ds h))) (
    fss_cons (fs_if (ft_cmp (op_gGt hu) (fe_cb (cr_bSum (by rfl)) (by rfl) T.n_sum (by first | rfl | decide +kernel) (fa_cons (fe_var 0) fa_nil)) (fe_gint (by rfl) T.m_MOST_LISTED) (by first | exact nomark _ | rfl)) (fss_one (fs_raise (by rfl) tk PySem.F.excBase_ValueError T.x_TooMany T.m_TooMany T.k_TooMany (raises_own T.b_TooMany T.y_TooMany) (by rfl))) fss_nil) (
    fss_cons (fs_set true sc.nd (fe_bin op_gAdd (FN.fe (fn_lst (fa_cons (fe_bin op_gSub (fe_ix ix_gIx (fe_var 0) fe_int (fun _ _ => by rfl)) fe_int) fa_nil))) (FN.fe (fn_cty cr_bList (by rfl) T.n_list (by first | rfl | decide +kernel) (fa_cons (fe_slice (fe_var 0) (fo_some fe_int) fo_none) fa_nil)))) (hx := (by first | exact Or.inl rfl | exact Or.inr rfl))) (
    fss_cons (fs_set true sc.nd (fe_call (ok__rows T 20) (hr.mono (by decide)) tk (by rfl) T.m__rows T.k__rows T.b__rows (fa_cons (fe_var 1) (fa_cons (fe_tup (fa_cons (fe_ix ix_gIx (fe_gstr (by rfl) T.m_LETTERS_counting) fe_int (fun _ _ => by rfl)) fa_nil)) fa_nil)) (fun ρ ds h => (sCons_len (sCons_len sNil_len)) ρ ds h)) (hx := (by first | exact Or.inl rfl | exact Or.inr rfl))) (
    fss_one (fs_ret (fe_cty cr_bTuple (by rfl) T.n_tuple (by first | rfl | decide +kernel) (fa_cons (FN.fe (fn_lc (by rfl) sc.nd (fi_any (fe_var 2)) (blkOk_by (own := [("row", 3)]) (by kernel_rfl)) (by decide) (fun _ _ _ _ _ => fg_one 3 sc.nd (by rfl) (by first | exact Or.inl rfl | exact Or.inr rfl)) (fun _ _ _ _ _ => fts_one (ft_cmp (op_gEq hu) (fe_var 3) (fe_cb (cr_bMin (by rfl) hu) (by rfl) T.n_min (by first | rfl | decide +kernel) (fa_cons (FN.fe (fn_lc (by rfl) sc.nd (fi_range1 (by rfl) T.n_range (fa_cons (fe_cb cr_bLen (by rfl) T.n_len (by first | rfl | decide +kernel) (fa_cons (fe_var 3) fa_nil)) fa_nil)) (blkOk_by (own := [("at", 4)]) (by kernel_rfl)) (by decide) (fun _ _ _ _ _ => fg_one 4 sc.nd (by rfl) (by first | exact Or.inl rfl | exact Or.inr rfl)) (fun _ _ _ _ _ => fts_nil) (fun _ _ _ _ _ => fe_bin op_gAdd (fe_slice (fe_var 3) (fo_some (fe_var 4)) fo_none) (fe_slice (fe_var 3) fo_none (fo_some (fe_var 4)))))) fa_nil)) (by first | exact nomark _ | rfl))) (fun _ _ _ _ _ => fe_var 3))) fa_nil)))))))
theorem ok__power (T : Txt K mg) : FnOk P w K mg base (L2.CX P w) 1 T.a__power T.d__power (["one", "times"] : List Str) (spD K mg (["one", "times"] : List Str).length F__power) :=
  fn_okD T.F__power sc__power fun cdv A outer s H E hr tk hp => have hr : Room 0 _ := hr; have hu := units80 hr; have sc := sc__power;
    fss_cons (fs_set true sc.nd fe_int (hx := (by first | exact Or.inl rfl | exact Or.inr rfl))) (
    fss_cons (fs_for hp (by rfl) (fi_range1 (by rfl) T.n_range (fa_cons (fe_var 1) fa_nil)) (fg_one 3 sc.nd (by rfl) (by first | exact Or.inl rfl | exact Or.inr rfl)) (keeps_one 3) (
    fss_one (fs_aug sc.nd ip_gMul (fe_var 0) (hx := (by first | exact Or.inl rfl | exact Or.inr rfl))))) (fss_one (fs_ret (fe_var 2))))
theorem ok_divisor (T : Txt K mg) : FnOk P w K mg base (L2.CX P w) 1 T.a_divisor T.d_divisor (["one", "other"] : List Str) (spD K mg (["one", "other"] : List Str).length F_divisor) :=
  fn_okD T.F_divisor sc_divisor fun cdv A outer s H E hr tk hp => have hr : Room 0 _ := hr; have hu := units80 hr; have sc := sc_divisor;
    fss_cons (fs_par true (by rfl) sc.nd (fa_cons (fe_cb cr_bAbs (by rfl) T.n_abs (by first | rfl | decide +kernel) (fa_cons (fe_var 0) fa_nil)) (fa_cons (fe_cb cr_bAbs (by rfl) T.n_abs (by first | rfl | decide +kernel) (fa_cons (fe_var 1) fa_nil)) fa_nil)) (by decide)) (
    fss_cons (fs_while 100000 hp (ft_cmp (op_gGt hu) (fe_var 1) fe_int (by first | exact nomark _ | rfl)) (fss_one (fs_par true (by rfl) sc.nd (fa_cons (fe_var 1) (fa_cons (fe_bin op_gMod (fe_var 0) (fe_var 1)) fa_nil)) (by decide)))) (fss_one (fs_ret (fe_var 0))))
theorem ok_count_ropes (T : Txt K mg) : FnOk P w K mg base (L2.CX P w) 2 T.a_count_ropes T.d_count_ropes (["strands", "colours"] : List Str) (spD K mg (["strands", "colours"] : List Str).length F_count_ropes) :=
  fn_okD T.F_count_ropes sc_count_ropes fun cdv A outer s H E hr tk hp => have hr : Room 1 _ := hr; have hu := units80 hr; have sc := sc_count_ropes;
    fss_cons (fs_if (ft_not (ft_val (fe_call (ok_is_whole T) (hr.mono (by decide)) tk (by rfl) T.m_is_whole T.k_is_whole T.b_is_whole (fa_cons (fe_var 0) (fa_cons fe_int (fa_cons (fe_gint (by rfl) T.m_MOST_STRANDS) fa_nil))) (fun ρ ds h => (sCons_len (sCons_len (sCons_len sNil_len))) ρ ds h)))) (fss_one (fs_raise (by rfl) tk PySem.F.excBase_ValueError T.x_BadStrandCount T.m_BadStrandCount T.k_BadStrandCount (raises_own T.b_BadStrandCount T.y_BadStrandCount) (by rfl))) fss_nil) (
    fss_cons (fs_if (ft_not (ft_val (fe_call (ok_is_whole T) (hr.mono (by decide)) tk (by rfl) T.m_is_whole T.k_is_whole T.b_is_whole (fa_cons (fe_var 1) (fa_cons fe_int (fa_cons (fe_gint (by rfl) T.m_MOST_COLOURS) fa_nil))) (fun ρ ds h => (sCons_len (sCons_len (sCons_len sNil_len))) ρ ds h)))) (fss_one (fs_raise (by rfl) tk PySem.F.excBase_ValueError T.x_BadColourCount T.m_BadColourCount T.k_BadColourCount (raises_own T.b_BadColourCount T.y_BadColourCount) (by rfl))) fss_nil) (
    fss_one (fs_ret (fe_bin op_gFdiv (fe_cb (cr_bSum (by rfl)) (by rfl) T.n_sum (by first | rfl | decide +kernel) (fa_cons (FN.fe (fn_lc (by rfl) sc.nd (fi_range2 (by rfl) T.n_range (fa_cons fe_int (fa_cons (fe_bin op_gAdd (fe_var 0) fe_int) fa_nil))) (blkOk_by (own := [("steps", 2)]) (by kernel_rfl)) (by decide) (fun _ _ _ _ _ => fg_one 2 sc.nd (by rfl) (by first | exact Or.inl rfl | exact Or.inr rfl)) (fun _ _ _ _ _ => fts_nil) (fun _ _ _ _ _ => fe_call (ok__power T) (hr.mono (by decide)) tk0 (by rfl) T.m__power T.k__power T.b__power (fa_cons (fe_var 1) (fa_cons (fe_call (ok_divisor T) (hr.mono (by decide)) tk0 (by rfl) T.m_divisor T.k_divisor T.b_divisor (fa_cons (fe_var 2) (fa_cons (fe_var 0) fa_nil)) (fun ρ ds h => (sCons_len (sCons_len sNil_len)) ρ ds h)) fa_nil)) (fun ρ ds h => (sCons_len (sCons_len sNil_len)) ρ ds h)))) fa_nil)) (fe_var 0)))))
theorem ok_is_colour (T : Txt K mg) : FnOk P w K mg base (L2.CX P w) 1 T.a_is_colour T.d_is_colour (["value"] : List Str) (spD K mg (["value"] : List Str).length F_is_colour) :=
  fn_okD T.F_is_colour sc_is_colour fun cdv A outer s H E hr tk hp => have hr : Room 0 _ := hr; have hu := units80 hr; have sc := sc_is_colour;
    fss_one (fs_ret (fe_and (fe_isa (by rfl) T.n_isinstance (by first | rfl | decide +kernel) (by rfl) T.n_str (by first | rfl | decide +kernel) (fe_var 0)) (fe_and (fe_chain (op_gLe hu) (op_gLe hu) fe_int (fe_cb cr_bLen (by rfl) T.n_len (by first | rfl | decide +kernel) (fa_cons (fe_var 0) fa_nil)) (fe_gint (by rfl) T.m_MOST_LETTERS)) (fe_one (fe_cb (cr_bAll (by rfl)) (by rfl) T.n_all (by first | rfl | decide +kernel) (fa_cons (FN.fe (fn_lc (by rfl) sc.nd (fi_any (fe_var 0)) (blkOk_by (own := [("sign", 1)]) (by kernel_rfl)) (by decide) (fun _ _ _ _ _ => fg_one 1 sc.nd (by rfl) (by first | exact Or.inl rfl | exact Or.inr rfl)) (fun _ _ _ _ _ => fts_nil) (fun _ _ _ _ _ => fe_cmp (op_gIn hu) (fe_var 1) (fe_gstr (by rfl) T.m_LETTERS_strands) (by first | exact nomark _ | rfl)))) fa_nil))))))
theorem ok_is_turn (T : Txt K mg) : FnOk P w K mg base (L2.CX P w) 1 T.a_is_turn T.d_is_turn (["value"] : List Str) (spD K mg (["value"] : List Str).length F_is_turn) :=
  fn_okD T.F_is_turn sc_is_turn fun cdv A outer s H E hr tk hp => have hr : Room 0 _ := hr; have hu := units80 hr; have sc := sc_is_turn;
    fss_one (fs_ret (fe_and (fe_isa (by rfl) T.n_isinstance (by first | rfl | decide +kernel) (by rfl) T.n_str (by first | rfl | decide +kernel) (fe_var 0)) (fe_one (fe_cmp (op_gIn hu) (fe_var 0) (fe_gtup (by rfl) T.m_TURNS T.g_TURNS) (by first | exact nomark _ | rfl)))))
theorem ok_is_integer (T : Txt K mg) : FnOk P w K mg base (L2.CX P w) 1 T.a_is_integer T.d_is_integer (["value"] : List Str) (spD K mg (["value"] : List Str).length F_is_integer) :=
  fn_okD T.F_is_integer sc_is_integer fun cdv A outer s H E hr tk hp => have hr : Room 0 _ := hr; have hu := units80 hr; have sc := sc_is_integer;
    fss_one (fs_ret (fe_and (fe_isa (by rfl) T.n_isinstance (by first | rfl | decide +kernel) (by rfl) T.n_int (by first | rfl | decide +kernel) (fe_var 0)) (fe_one (fe_not (fe_isa (by rfl) T.n_isinstance (by first | rfl | decide +kernel) (by rfl) T.n_bool (by first | rfl | decide +kernel) (fe_var 0))))))
theorem ok_is_quotient (T : Txt K mg) : FnOk P w K mg base (L2.CX P w) 2 T.a_is_quotient T.d_is_quotient (["value"] : List Str) (spD K mg (["value"] : List Str).length F_is_quotient) :=
  fn_okD T.F_is_quotient sc_is_quotient fun cdv A outer s H E hr tk hp => have hr : Room 1 _ := hr; have hu := units80 hr; have sc := sc_is_quotient;
    fss_cons (fs_if (FW.ft (fw_or (ft_not (ft_val (fe_isa (by rfl) T.n_isinstance (by first | rfl | decide +kernel) (by rfl) T.n_tuple (by first | rfl | decide +kernel) (fe_var 0)))) (fw_or (ft_cmp (op_gNe hu) (fe_cb cr_bLen (by rfl) T.n_len (by first | rfl | decide +kernel) (fa_cons (fe_var 0) fa_nil)) fe_int (by first | exact nomark _ | rfl)) (fw_or (ft_not (ft_val (fe_call (ok_is_integer T) (hr.mono (by decide)) tk (by rfl) T.m_is_integer T.k_is_integer T.b_is_integer (fa_cons (fe_ix ix_gIx (fe_var 0) fe_int (fun _ _ => by rfl)) fa_nil) (fun ρ ds h => (sCons_len sNil_len) ρ ds h)))) (fw_or1 (ft_not (ft_val (fe_call (ok_is_integer T) (hr.mono (by decide)) tk (by rfl) T.m_is_integer T.k_is_integer T.b_is_integer (fa_cons (fe_ix ix_gIx (fe_var 0) fe_int (fun _ _ => by rfl)) fa_nil) (fun ρ ds h => (sCons_len sNil_len) ρ ds h))))))))) (fss_one (fs_ret fe_bl)) fss_nil) (
    fss_one (fs_ret (fe_and (fe_cmp (op_gGt hu) (fe_ix ix_gIx (fe_var 0) fe_int (fun _ _ => by rfl)) fe_int (by first | exact nomark _ | rfl)) (fe_one (fe_cmp (op_gEq hu) (fe_call (ok_divisor T) (hr.mono (by decide)) tk (by rfl) T.m_divisor T.k_divisor T.b_divisor (fa_cons (fe_ix ix_gIx (fe_var 0) fe_int (fun _ _ => by rfl)) (fa_cons (fe_ix ix_gIx (fe_var 0) fe_int (fun _ _ => by rfl)) fa_nil)) (fun ρ ds h => (sCons_len (sCons_len sNil_len)) ρ ds h)) fe_int (by first | exact nomark _ | rfl))))))
theorem ok_is_less (T : Txt K mg) : FnOk P w K mg base (L2.CX P w) 1 T.a_is_less T.d_is_less (["one", "other"] : List Str) (spD K mg (["one", "other"] : List Str).length F_is_less) :=
  fn_okD T.F_is_less sc_is_less fun cdv A outer s H E hr tk hp => have hr : Room 0 _ := hr; have hu := units80 hr; have sc := sc_is_less;
    fss_one (fs_ret (fe_cmp (op_gLt hu) (fe_bin op_gMulT (fe_ix ix_gIx (fe_var 0) fe_int (fun _ _ => by rfl)) (fe_ix ix_gIx (fe_var 1) fe_int (fun _ _ => by rfl))) (fe_bin op_gMulT (fe_ix ix_gIx (fe_var 1) fe_int (fun _ _ => by rfl)) (fe_ix ix_gIx (fe_var 0) fe_int (fun _ _ => by rfl))) (by first | exact nomark _ | rfl)))
theorem ok_is_lay (T : Txt K mg) : FnOk P w K mg base (L2.CX P w) 3 T.a_is_lay T.d_is_lay (["value"] : List Str) (spD K mg (["value"] : List Str).length F_is_lay) :=
  fn_okD T.F_is_lay sc_is_lay fun cdv A outer s H E hr tk hp => have hr : Room 2 _ := hr; have hu := units80 hr; have sc := sc_is_lay;
    fss_one (fs_ret (fe_and (fe_call (ok_is_quotient T) (hr.mono (by decide)) tk (by rfl) T.m_is_quotient T.k_is_quotient T.b_is_quotient (fa_cons (fe_var 0) fa_nil) (fun ρ ds h => (sCons_len sNil_len) ρ ds h)) (fe_and (fe_not (fe_call (ok_is_less T) (hr.mono (by decide)) tk (by rfl) T.m_is_less T.k_is_less T.b_is_less (fa_cons (fe_var 0) (fa_cons (fe_tup (fa_cons fe_int (fa_cons fe_int fa_nil))) fa_nil)) (fun ρ ds h => (sCons_len (sCons_len sNil_len)) ρ ds h))) (fe_one (fe_not (fe_call (ok_is_less T) (hr.mono (by decide)) tk (by rfl) T.m_is_less T.k_is_less T.b_is_less (fa_cons (fe_tup (fa_cons fe_int (fa_cons fe_int fa_nil))) (fa_cons (fe_var 0) fa_nil)) (fun ρ ds h => (sCons_len (sCons_len sNil_len)) ρ ds h)))))))
theorem ok__is_within__are_parts (T : Txt K mg) : ∀ n : Nat, FnOk P w K mg base (L2.CX P w) (3 + n) T.a__is_within T.d__is_within (["value", "room"] : List Str) (spD K mg (["value", "room"] : List Str).length (F__is_within n)) ∧ FnOk P w K mg base (L2.CX P w) (3 + n) T.a__are_parts T.d__are_parts (["value", "room"] : List Str) (spD K mg (["value", "room"] : List Str).length (F__are_parts n))
  | 0 => ⟨fn_bad, fn_bad⟩
  | n + 1 => by
    have ih := ok__is_within__are_parts T n
    exact ⟨(fn_okD T.F__is_within sc__is_within fun cdv A outer s H E hr tk hp => have hu := units80 hr; have sc := sc__is_within;
      fss_cons (fs_if (FW.ft (fw_or (ft_cmp (op_gEq hu) (fe_var 1) fe_int (by first | exact nomark _ | rfl)) (fw_or (ft_not (ft_val (fe_isa (by rfl) T.n_isinstance (by first | rfl | decide +kernel) (by rfl) T.n_tuple (by first | rfl | decide +kernel) (fe_var 0)))) (fw_or (ft_cmp (op_gEq hu) (fe_cb cr_bLen (by rfl) T.n_len (by first | rfl | decide +kernel) (fa_cons (fe_var 0) fa_nil)) fe_int (by first | exact nomark _ | rfl)) (fw_or1 (ft_not (ft_val (fe_isa (by rfl) T.n_isinstance (by first | rfl | decide +kernel) (by rfl) T.n_str (by first | rfl | decide +kernel) (fe_ix ix_gIx (fe_var 0) fe_int (fun _ _ => by rfl)))))))))) (fss_one (fs_ret fe_bl)) fss_nil) (
      fss_cons (fs_if (ft_cmp (op_gEq hu) (fe_ix ix_gIx (fe_var 0) fe_int (fun _ _ => by rfl)) (fe_gstr (by rfl) T.m_YARN) (by first | exact nomark _ | rfl)) (fss_one (fs_ret (fe_and (fe_cmp (op_gEq hu) (fe_cb cr_bLen (by rfl) T.n_len (by first | rfl | decide +kernel) (fa_cons (fe_var 0) fa_nil)) fe_int (by first | exact nomark _ | rfl)) (fe_one (fe_call (ok_is_colour T) (hr.mono (Nat.le_trans (show 1 ≤ 3 by decide) (Nat.le_add_right _ _))) tk (by rfl) T.m_is_colour T.k_is_colour T.b_is_colour (fa_cons (fe_ix ix_gIx (fe_var 0) fe_int (fun _ _ => by rfl)) fa_nil) (fun ρ ds h => (sCons_len sNil_len) ρ ds h)))))) fss_nil) (
      fss_cons (fs_if (FW.ft (fw_or (ft_cmp (op_gNe hu) (fe_cb cr_bLen (by rfl) T.n_len (by first | rfl | decide +kernel) (fa_cons (fe_var 0) fa_nil)) fe_int (by first | exact nomark _ | rfl)) (fw_or (ft_not (ft_val (fe_call (ok_is_turn T) (hr.mono (Nat.le_trans (show 1 ≤ 3 by decide) (Nat.le_add_right _ _))) tk (by rfl) T.m_is_turn T.k_is_turn T.b_is_turn (fa_cons (fe_ix ix_gIx (fe_var 0) fe_int (fun _ _ => by rfl)) fa_nil) (fun ρ ds h => (sCons_len sNil_len) ρ ds h)))) (fw_or1 (ft_not (ft_val (fe_call (ok_is_lay T) (hr.mono (Nat.le_trans (show 3 ≤ 3 by decide) (Nat.le_add_right _ _))) tk (by rfl) T.m_is_lay T.k_is_lay T.b_is_lay (fa_cons (fe_ix ix_gIx (fe_var 0) fe_int (fun _ _ => by rfl)) fa_nil) (fun ρ ds h => (sCons_len sNil_len) ρ ds h)))))))) (fss_one (fs_ret fe_bl)) fss_nil) (
      fss_one (fs_ret (fe_call (ih.2) (hr) tk (by rfl) T.m__are_parts T.k__are_parts T.b__are_parts (fa_cons (fe_ix ix_gIx (fe_var 0) fe_int (fun _ _ => by rfl)) (fa_cons (fe_bin op_gSub (fe_var 1) fe_int) fa_nil)) (fun ρ ds h => (sCons_len (sCons_len sNil_len)) ρ ds h))))))), (fn_okD T.F__are_parts sc__are_parts fun cdv A outer s H E hr tk hp => have hu := units80 hr; have sc := sc__are_parts;
      fss_cons (fs_if (FW.ft (fw_or (ft_not (ft_val (fe_isa (by rfl) T.n_isinstance (by first | rfl | decide +kernel) (by rfl) T.n_tuple (by first | rfl | decide +kernel) (fe_var 0)))) (fw_or1 (ft_not (ft_chain (op_gLe hu) (op_gLe hu) fe_int (fe_cb cr_bLen (by rfl) T.n_len (by first | rfl | decide +kernel) (fa_cons (fe_var 0) fa_nil)) (fe_gint (by rfl) T.m_MOST_PARTS)))))) (fss_one (fs_ret fe_bl)) fss_nil) (
      fss_one (fs_ret (fe_cb (cr_bAll (by rfl)) (by rfl) T.n_all (by first | rfl | decide +kernel) (fa_cons (FN.fe (fn_lc (by rfl) sc.nd (fi_any (fe_var 0)) (blkOk_by (own := [("part", 2)]) (by kernel_rfl)) (by decide) (fun _ _ _ _ _ => fg_one 2 sc.nd (by rfl) (by first | exact Or.inl rfl | exact Or.inr rfl)) (fun _ _ _ _ _ => fts_nil) (fun _ _ _ _ _ => fe_call (ih.1) (hr) tk0 (by rfl) T.m__is_within T.k__is_within T.b__is_within (fa_cons (fe_var 2) (fa_cons (fe_var 1) fa_nil)) (fun ρ ds h => (sCons_len (sCons_len sNil_len)) ρ ds h)))) fa_nil)))))⟩
theorem ok__is_within (T : Txt K mg) (n : Nat) : FnOk P w K mg base (L2.CX P w) (3 + n) T.a__is_within T.d__is_within (["value", "room"] : List Str) (spD K mg (["value", "room"] : List Str).length (F__is_within n)) := (ok__is_within__are_parts T n).1
theorem ok__are_parts (T : Txt K mg) (n : Nat) : FnOk P w K mg base (L2.CX P w) (3 + n) T.a__are_parts T.d__are_parts (["value", "room"] : List Str) (spD K mg (["value", "room"] : List Str).length (F__are_parts n)) := (ok__is_within__are_parts T n).2
theorem ok__things (T : Txt K mg) : ∀ n : Nat, FnOk P w K mg base (L2.CX P w) (0 + n) T.a__things T.d__things (["rope"] : List Str) (spD K mg (["rope"] : List Str).length (F__things n))
  | 0 => fn_bad
  | n + 1 => by
    have ih := ok__things T n
    exact (fn_okD T.F__things sc__things fun cdv A outer s H E hr tk hp => have hu := units80 hr; have sc := sc__things;
      fss_cons (fs_setN sc.nd (fn_lst (fa_cons (fe_var 0) fa_nil)) (hx := (by first | exact Or.inl rfl | exact Or.inr rfl))) (
      fss_cons (fs_if (ft_cmp (op_gNe hu) (fe_ix ix_gIx (fe_var 0) fe_int (fun _ _ => by rfl)) (fe_gstr (by rfl) T.m_YARN) (by first | exact nomark _ | rfl)) (fss_one (fs_for hp (by rfl) (fi_any (fe_ix ix_gIx (fe_var 0) fe_int (fun _ _ => by rfl))) (fg_one 2 sc.nd (by rfl) (by first | exact Or.inl rfl | exact Or.inr rfl)) (keeps_one 2) (
      fss_one (fs_extend true (fe_call (ih) (hr) tk (by rfl) T.m__things T.k__things T.b__things (fa_cons (fe_var 2) fa_nil) (fun ρ ds h => (sCons_len sNil_len) ρ ds h)))))) fss_nil) (fss_one (fs_ret (fe_var 1)))))
theorem ok_is_rope (T : Txt K mg) : FnOk P w K mg base (L2.CX P w) 24 T.a_is_rope T.d_is_rope (["value"] : List Str) (spD K mg (["value"] : List Str).length F_is_rope) :=
  fn_okD T.F_is_rope sc_is_rope fun cdv A outer s H E hr tk hp => have hr : Room 23 _ := hr; have hu := units80 hr; have sc := sc_is_rope;
    fss_one (fs_ret (fe_and (fe_call (ok__is_within T 20) (hr.mono (by decide)) tk (by rfl) T.m__is_within T.k__is_within T.b__is_within (fa_cons (fe_var 0) (fa_cons (fe_gint (by rfl) T.m_MOST_WITHIN) fa_nil)) (fun ρ ds h => (sCons_len (sCons_len sNil_len)) ρ ds h)) (fe_one (fe_cmp (op_gLe hu) (fe_cb cr_bLen (by rfl) T.n_len (by first | rfl | decide +kernel) (fa_cons (fe_call (ok__things T 20) (hr.mono (by decide)) tk (by rfl) T.m__things T.k__things T.b__things (fa_cons (fe_var 0) fa_nil) (fun ρ ds h => (sCons_len sNil_len) ρ ds h)) fa_nil)) (fe_gint (by rfl) T.m_MOST_THINGS) (by first | exact nomark _ | rfl)))))
theorem ok__check (T : Txt K mg) : FnOk P w K mg base (L2.CX P w) 25 T.a__check T.d__check (["rope"] : List Str) (spD K mg (["rope"] : List Str).length F__check) :=
  fn_okD T.F__check sc__check fun cdv A outer s H E hr tk hp => have hr : Room 24 _ := hr; have hu := units80 hr; have sc := sc__check;
    fss_one (fs_if (ft_not (ft_val (fe_call (ok_is_rope T) (hr.mono (by decide)) tk (by rfl) T.m_is_rope T.k_is_rope T.b_is_rope (fa_cons (fe_var 0) fa_nil) (fun ρ ds h => (sCons_len sNil_len) ρ ds h)))) (fss_one (fs_raise (by rfl) tk PySem.F.excBase_ValueError T.x_BadStrands T.m_BadStrands T.k_BadStrands (raises_own T.b_BadStrands T.y_BadStrands) (by rfl))) fss_nil)
theorem ok__yarns (T : Txt K mg) : FnOk P w K mg base (L2.CX P w) 21 T.a__yarns T.d__yarns (["rope"] : List Str) (spD K mg (["rope"] : List Str).length F__yarns) :=
  fn_okD T.F__yarns sc__yarns fun cdv A outer s H E hr tk hp => have hr : Room 20 _ := hr; have hu := units80 hr; have sc := sc__yarns;
    fss_one (fs_ret (FN.fe (fn_lc (by rfl) sc.nd (fi_any (fe_call (ok__things T 20) (hr.mono (by decide)) tk (by rfl) T.m__things T.k__things T.b__things (fa_cons (fe_var 0) fa_nil) (fun ρ ds h => (sCons_len sNil_len) ρ ds h))) (blkOk_by (own := [("one", 1)]) (by kernel_rfl)) (by decide) (fun _ _ _ _ _ => fg_one 1 sc.nd (by rfl) (by first | exact Or.inl rfl | exact Or.inr rfl)) (fun _ _ _ _ _ => fts_one (ft_cmp (op_gEq hu) (fe_ix ix_gIx (fe_var 1) fe_int (fun _ _ => by rfl)) (fe_gstr (by rfl) T.m_YARN) (by first | exact nomark _ | rfl))) (fun _ _ _ _ _ => fe_ix ix_gIx (fe_var 1) fe_int (fun _ _ => by rfl)))))
theorem ok_yarns_of (T : Txt K mg) : FnOk P w K mg base (L2.CX P w) 26 T.a_yarns_of T.d_yarns_of (["rope"] : List Str) (spD K mg (["rope"] : List Str).length F_yarns_of) :=
  fn_okD T.F_yarns_of sc_yarns_of fun cdv A outer s H E hr tk hp => have hr : Room 25 _ := hr; have hu := units80 hr; have sc := sc_yarns_of;
    fss_cons (fs_drop true (fe_call (ok__check T) (hr.mono (by decide)) tk (by rfl) T.m__check T.k__check T.b__check (fa_cons (fe_var 0) fa_nil) (fun ρ ds h => (sCons_len sNil_len) ρ ds h))) (
    fss_one (fs_ret (fe_cty cr_bTuple (by rfl) T.n_tuple (by first | rfl | decide +kernel) (fa_cons (fe_call (ok__yarns T) (hr.mono (by decide)) tk (by rfl) T.m__yarns T.k__yarns T.b__yarns (fa_cons (fe_var 0) fa_nil) (fun ρ ds h => (sCons_len sNil_len) ρ ds h)) fa_nil))))
theorem ok_is_hard (T : Txt K mg) : FnOk P w K mg base (L2.CX P w) 26 T.a_is_hard T.d_is_hard (["rope"] : List Str) (spD K mg (["rope"] : List Str).length F_is_hard) :=
  fn_okD T.F_is_hard sc_is_hard fun cdv A outer s H E hr tk hp => have hr : Room 25 _ := hr; have hu := units80 hr; have sc := sc_is_hard;
    fss_cons (fs_drop true (fe_call (ok__check T) (hr.mono (by decide)) tk (by rfl) T.m__check T.k__check T.b__check (fa_cons (fe_var 0) fa_nil) (fun ρ ds h => (sCons_len sNil_len) ρ ds h))) (
    fss_cons (fs_for hp (by rfl) (fi_any (fe_call (ok__things T 20) (hr.mono (by decide)) tk (by rfl) T.m__things T.k__things T.b__things (fa_cons (fe_var 0) fa_nil) (fun ρ ds h => (sCons_len sNil_len) ρ ds h))) (fg_one 1 sc.nd (by rfl) (by first | exact Or.inl rfl | exact Or.inr rfl)) (keeps_one 1) (
    fss_one (fs_if (FW.ft (fw_and (ft_cmp (op_gNe hu) (fe_ix ix_gIx (fe_var 1) fe_int (fun _ _ => by rfl)) (fe_gstr (by rfl) T.m_YARN) (by first | exact nomark _ | rfl)) (fw_and1 (ft_val (fe_cb (cr_bAny (by rfl)) (by rfl) T.n_any (by first | rfl | decide +kernel) (fa_cons (FN.fe (fn_lc (by rfl) sc.nd (fi_any (fe_ix ix_gIx (fe_var 1) fe_int (fun _ _ => by rfl))) (blkOk_by (own := [("part", 2)]) (by kernel_rfl)) (by decide) (fun _ _ _ _ _ => fg_one 2 sc.nd (by rfl) (by first | exact Or.inl rfl | exact Or.inr rfl)) (fun _ _ _ _ _ => fts_nil) (fun _ _ _ _ _ => fe_cmp (op_gEq hu) (fe_ix ix_gIx (fe_var 2) fe_int (fun _ _ => by rfl)) (fe_ix ix_gIx (fe_var 1) fe_int (fun _ _ => by rfl)) (by first | exact nomark _ | rfl)))) fa_nil)))))) (fss_one (fs_ret fe_bl)) fss_nil))) (fss_one (fs_ret fe_bl)))
theorem ok_check_length (T : Txt K mg) : FnOk P w K mg base (L2.CX P w) 2 T.a_check_length T.d_check_length (["length"] : List Str) (spD K mg (["length"] : List Str).length F_check_length) :=
  fn_okD T.F_check_length sc_check_length fun cdv A outer s H E hr tk hp => have hr : Room 1 _ := hr; have hu := units80 hr; have sc := sc_check_length;
    fss_one (fs_if (ft_not (ft_val (fe_call (ok_is_whole T) (hr.mono (by decide)) tk (by rfl) T.m_is_whole T.k_is_whole T.b_is_whole (fa_cons (fe_var 0) (fa_cons fe_int (fa_cons (fe_gint (by rfl) T.m_MOST_LENGTH) fa_nil))) (fun ρ ds h => (sCons_len (sCons_len (sCons_len sNil_len))) ρ ds h)))) (fss_one (fs_raise (by rfl) tk PySem.F.excBase_ValueError T.x_BadLength T.m_BadLength T.k_BadLength (raises_own T.b_BadLength T.y_BadLength) (by rfl))) fss_nil)
theorem ok_quotient (T : Txt K mg) : FnOk P w K mg base (L2.CX P w) 2 T.a_quotient T.d_quotient (["up", "down"] : List Str) (spD K mg (["up", "down"] : List Str).length F_quotient) :=
  fn_okD T.F_quotient sc_quotient fun cdv A outer s H E hr tk hp => have hr : Room 1 _ := hr; have hu := units80 hr; have sc := sc_quotient;
    fss_cons (fs_set true sc.nd (fe_call (ok_divisor T) (hr.mono (by decide)) tk (by rfl) T.m_divisor T.k_divisor T.b_divisor (fa_cons (fe_var 0) (fa_cons (fe_var 1) fa_nil)) (fun ρ ds h => (sCons_len (sCons_len sNil_len)) ρ ds h)) (hx := (by first | exact Or.inl rfl | exact Or.inr rfl))) (
    fss_one (fs_ret (fe_tup (fa_cons (fe_bin op_gFdiv (fe_var 0) (fe_var 2)) (fa_cons (fe_bin op_gFdiv (fe_var 1) (fe_var 2)) fa_nil)))))
theorem ok_times (T : Txt K mg) : FnOk P w K mg base (L2.CX P w) 3 T.a_times T.d_times (["one", "other"] : List Str) (spD K mg (["one", "other"] : List Str).length F_times) :=
  fn_okD T.F_times sc_times fun cdv A outer s H E hr tk hp => have hr : Room 2 _ := hr; have hu := units80 hr; have sc := sc_times;
    fss_one (fs_ret (fe_call (ok_quotient T) (hr.mono (by decide)) tk (by rfl) T.m_quotient T.k_quotient T.b_quotient (fa_cons (fe_bin op_gMulT (fe_ix ix_gIx (fe_var 0) fe_int (fun _ _ => by rfl)) (fe_ix ix_gIx (fe_var 1) fe_int (fun _ _ => by rfl))) (fa_cons (fe_bin op_gMulT (fe_ix ix_gIx (fe_var 0) fe_int (fun _ _ => by rfl)) (fe_ix ix_gIx (fe_var 1) fe_int (fun _ _ => by rfl))) fa_nil)) (fun ρ ds h => (sCons_len (sCons_len sNil_len)) ρ ds h)))
theorem ok_over (T : Txt K mg) : FnOk P w K mg base (L2.CX P w) 3 T.a_over T.d_over (["one", "other"] : List Str) (spD K mg (["one", "other"] : List Str).length F_over) :=
  fn_okD T.F_over sc_over fun cdv A outer s H E hr tk hp => have hr : Room 2 _ := hr; have hu := units80 hr; have sc := sc_over;
    fss_one (fs_ret (fe_call (ok_quotient T) (hr.mono (by decide)) tk (by rfl) T.m_quotient T.k_quotient T.b_quotient (fa_cons (fe_bin op_gMulT (fe_ix ix_gIx (fe_var 0) fe_int (fun _ _ => by rfl)) (fe_ix ix_gIx (fe_var 1) fe_int (fun _ _ => by rfl))) (fa_cons (fe_bin op_gMulT (fe_ix ix_gIx (fe_var 0) fe_int (fun _ _ => by rfl)) (fe_ix ix_gIx (fe_var 1) fe_int (fun _ _ => by rfl))) fa_nil)) (fun ρ ds h => (sCons_len (sCons_len sNil_len)) ρ ds h)))
theorem ok_plus (T : Txt K mg) : FnOk P w K mg base (L2.CX P w) 3 T.a_plus T.d_plus (["one", "other"] : List Str) (spD K mg (["one", "other"] : List Str).length F_plus) :=
  fn_okD T.F_plus sc_plus fun cdv A outer s H E hr tk hp => have hr : Room 2 _ := hr; have hu := units80 hr; have sc := sc_plus;
    fss_one (fs_ret (fe_call (ok_quotient T) (hr.mono (by decide)) tk (by rfl) T.m_quotient T.k_quotient T.b_quotient (fa_cons (fe_bin op_gAdd (fe_bin op_gMulT (fe_ix ix_gIx (fe_var 0) fe_int (fun _ _ => by rfl)) (fe_ix ix_gIx (fe_var 1) fe_int (fun _ _ => by rfl))) (fe_bin op_gMulT (fe_ix ix_gIx (fe_var 1) fe_int (fun _ _ => by rfl)) (fe_ix ix_gIx (fe_var 0) fe_int (fun _ _ => by rfl)))) (fa_cons (fe_bin op_gMulT (fe_ix ix_gIx (fe_var 0) fe_int (fun _ _ => by rfl)) (fe_ix ix_gIx (fe_var 1) fe_int (fun _ _ => by rfl))) fa_nil)) (fun ρ ds h => (sCons_len (sCons_len sNil_len)) ρ ds h)))
theorem ok__turns (T : Txt K mg) : ∀ n : Nat, FnOk P w K mg base (L2.CX P w) (3 + n) T.a__turns T.d__turns (["rope", "ahead"] : List Str) (spD K mg (["rope", "ahead"] : List Str).length (F__turns n))
  | 0 => fn_bad
  | n + 1 => by
    have ih := ok__turns T n
    exact (fn_okD T.F__turns sc__turns fun cdv A outer s H E hr tk hp => have hu := units80 hr; have sc := sc__turns;
      fss_cons (fs_if (ft_cmp (op_gEq hu) (fe_ix ix_gIx (fe_var 0) fe_int (fun _ _ => by rfl)) (fe_gstr (by rfl) T.m_YARN) (by first | exact nomark _ | rfl)) (fss_one (fs_ret (FN.fe (fn_lst (fa_cons (fe_var 1) fa_nil))))) fss_nil) (
      fss_cons (fs_set true sc.nd (fe_call (ok_over T) (hr.mono (Nat.le_trans (show 3 ≤ 3 by decide) (Nat.le_add_right _ _))) tk (by rfl) T.m_over T.k_over T.b_over (fa_cons (fe_gtup (by rfl) T.m_ONE T.g_ONE) (fa_cons (fe_ix ix_gIx (fe_var 0) fe_int (fun _ _ => by rfl)) fa_nil)) (fun ρ ds h => (sCons_len (sCons_len sNil_len)) ρ ds h)) (hx := (by first | exact Or.inl rfl | exact Or.inr rfl))) (
      fss_cons (fs_set true sc.nd (fe_call (ok_plus T) (hr.mono (Nat.le_trans (show 3 ≤ 3 by decide) (Nat.le_add_right _ _))) tk (by rfl) T.m_plus T.k_plus T.b_plus (fa_cons (fe_var 1) (fa_cons (fe_ite (ft_cmp (op_gEq hu) (fe_ix ix_gIx (fe_var 0) fe_int (fun _ _ => by rfl)) fe_str (by first | exact nomark _ | rfl)) (fe_var 2) (fe_call (ok_times T) (hr.mono (Nat.le_trans (show 3 ≤ 3 by decide) (Nat.le_add_right _ _))) tk (by rfl) T.m_times T.k_times T.b_times (fa_cons (fe_var 2) (fa_cons (fe_tup (fa_cons (fe_un un_gNeg fe_int) (fa_cons fe_int fa_nil))) fa_nil)) (fun ρ ds h => (sCons_len (sCons_len sNil_len)) ρ ds h))) fa_nil)) (fun ρ ds h => (sCons_len (sCons_len sNil_len)) ρ ds h)) (hx := (by first | exact Or.inl rfl | exact Or.inr rfl))) (
      fss_cons (fs_setN sc.nd (fn_lst fa_nil) (hx := (by first | exact Or.inl rfl | exact Or.inr rfl))) (
      fss_cons (fs_for hp (by rfl) (fi_any (fe_ix ix_gIx (fe_var 0) fe_int (fun _ _ => by rfl))) (fg_one 5 sc.nd (by rfl) (by first | exact Or.inl rfl | exact Or.inr rfl)) (keeps_one 5) (
      fss_one (fs_extend true (fe_call (ih) (hr) tk (by rfl) T.m__turns T.k__turns T.b__turns (fa_cons (fe_var 5) (fa_cons (fe_var 3) fa_nil)) (fun ρ ds h => (sCons_len (sCons_len sNil_len)) ρ ds h))))) (fss_one (fs_ret (fe_var 4))))))))
theorem ok_turns_in (T : Txt K mg) : FnOk P w K mg base (L2.CX P w) 26 T.a_turns_in T.d_turns_in (["rope", "length"] : List Str) (spD K mg (["rope", "length"] : List Str).length F_turns_in) :=
  fn_okD T.F_turns_in sc_turns_in fun cdv A outer s H E hr tk hp => have hr : Room 25 _ := hr; have hu := units80 hr; have sc := sc_turns_in;
    fss_cons (fs_drop true (fe_call (ok__check T) (hr.mono (by decide)) tk (by rfl) T.m__check T.k__check T.b__check (fa_cons (fe_var 0) fa_nil) (fun ρ ds h => (sCons_len sNil_len) ρ ds h))) (
    fss_cons (fs_drop true (fe_call (ok_check_length T) (hr.mono (by decide)) tk (by rfl) T.m_check_length T.k_check_length T.b_check_length (fa_cons (fe_var 1) fa_nil) (fun ρ ds h => (sCons_len sNil_len) ρ ds h))) (
    fss_one (fs_ret (fe_cty cr_bTuple (by rfl) T.n_tuple (by first | rfl | decide +kernel) (fa_cons (FN.fe (fn_lc (by rfl) sc.nd (fi_any (fe_call (ok__turns T 20) (hr.mono (by decide)) tk (by rfl) T.m__turns T.k__turns T.b__turns (fa_cons (fe_var 0) (fa_cons (fe_gtup (by rfl) T.m_NOTHING T.g_NOTHING) fa_nil)) (fun ρ ds h => (sCons_len (sCons_len sNil_len)) ρ ds h))) (blkOk_by (own := [("one", 2)]) (by kernel_rfl)) (by decide) (fun _ _ _ _ _ => fg_one 2 sc.nd (by rfl) (by first | exact Or.inl rfl | exact Or.inr rfl)) (fun _ _ _ _ _ => fts_nil) (fun _ _ _ _ _ => fe_call (ok_times T) (hr.mono (by decide)) tk0 (by rfl) T.m_times T.k_times T.b_times (fa_cons (fe_var 2) (fa_cons (fe_tup (fa_cons (fe_var 1) (fa_cons fe_int fa_nil))) fa_nil)) (fun ρ ds h => (sCons_len (sCons_len sNil_len)) ρ ds h)))) fa_nil)))))
theorem ok_is_quiet (T : Txt K mg) : FnOk P w K mg base (L2.CX P w) 26 T.a_is_quiet T.d_is_quiet (["rope"] : List Str) (spD K mg (["rope"] : List Str).length F_is_quiet) :=
  fn_okD T.F_is_quiet sc_is_quiet fun cdv A outer s H E hr tk hp => have hr : Room 25 _ := hr; have hu := units80 hr; have sc := sc_is_quiet;
    fss_cons (fs_drop true (fe_call (ok__check T) (hr.mono (by decide)) tk (by rfl) T.m__check T.k__check T.b__check (fa_cons (fe_var 0) fa_nil) (fun ρ ds h => (sCons_len sNil_len) ρ ds h))) (
    fss_one (fs_ret (fe_cb (cr_bAll (by rfl)) (by rfl) T.n_all (by first | rfl | decide +kernel) (fa_cons (FN.fe (fn_lc (by rfl) sc.nd (fi_any (fe_call (ok__turns T 20) (hr.mono (by decide)) tk (by rfl) T.m__turns T.k__turns T.b__turns (fa_cons (fe_var 0) (fa_cons (fe_gtup (by rfl) T.m_NOTHING T.g_NOTHING) fa_nil)) (fun ρ ds h => (sCons_len (sCons_len sNil_len)) ρ ds h))) (blkOk_by (own := [("one", 1)]) (by kernel_rfl)) (by decide) (fun _ _ _ _ _ => fg_one 1 sc.nd (by rfl) (by first | exact Or.inl rfl | exact Or.inr rfl)) (fun _ _ _ _ _ => fts_nil) (fun _ _ _ _ _ => fe_cmp (op_gEq hu) (fe_var 1) (fe_gtup (by rfl) T.m_NOTHING T.g_NOTHING) (by first | exact nomark _ | rfl)))) fa_nil))))
theorem ok__law_low (T : Txt K mg) : FnOk P w K mg base (L2.CX P w) 1 T.a__law_low T.d__law_low (["up", "down"] : List Str) (spD K mg (["up", "down"] : List Str).length F__law_low) :=
  fn_okD T.F__law_low sc__law_low fun cdv A outer s H E hr tk hp => have hr : Room 0 _ := hr; have hu := units80 hr; have sc := sc__law_low;
    fss_cons (fs_par true (by rfl) sc.nd (fa_cons (fe_var 0) (fa_cons (fe_var 1) fa_nil)) (by decide)) (
    fss_cons (fs_while 100000 hp (ft_cmp (op_gGt hu) (fe_var 3) fe_int (by first | exact nomark _ | rfl)) (fss_one (fs_par true (by rfl) sc.nd (fa_cons (fe_var 3) (fa_cons (fe_bin op_gMod (fe_var 2) (fe_var 3)) fa_nil)) (by decide)))) (
    fss_one (fs_ret (fe_tup (fa_cons (fe_bin op_gFdiv (fe_var 0) (fe_var 2)) (fa_cons (fe_bin op_gFdiv (fe_var 1) (fe_var 2)) fa_nil))))))
theorem ok__check_take (T : Txt K mg) : FnOk P w K mg base (L2.CX P w) 3 T.a__check_take T.d__check_take (["take"] : List Str) (spD K mg (["take"] : List Str).length F__check_take) :=
  fn_okD T.F__check_take sc__check_take fun cdv A outer s H E hr tk hp => have hr : Room 2 _ := hr; have hu := units80 hr; have sc := sc__check_take;
    fss_one (fs_if (FW.ft (fw_or (ft_not (ft_val (fe_call (ok_is_quotient T) (hr.mono (by decide)) tk (by rfl) T.m_is_quotient T.k_is_quotient T.b_is_quotient (fa_cons (fe_var 0) fa_nil) (fun ρ ds h => (sCons_len sNil_len) ρ ds h)))) (fw_or (ft_val (fe_call (ok_is_less T) (hr.mono (by decide)) tk (by rfl) T.m_is_less T.k_is_less T.b_is_less (fa_cons (fe_var 0) (fa_cons (fe_gtup (by rfl) T.m_ONE T.g_ONE) fa_nil)) (fun ρ ds h => (sCons_len (sCons_len sNil_len)) ρ ds h))) (fw_or1 (ft_val (fe_call (ok_is_less T) (hr.mono (by decide)) tk (by rfl) T.m_is_less T.k_is_less T.b_is_less (fa_cons (fe_tup (fa_cons fe_int (fa_cons fe_int fa_nil))) (fa_cons (fe_var 0) fa_nil)) (fun ρ ds h => (sCons_len (sCons_len sNil_len)) ρ ds h))))))) (fss_one (fs_raise (by rfl) tk PySem.F.excBase_ValueError T.x_BadTake T.m_BadTake T.k_BadTake (raises_own T.b_BadTake T.y_BadTake) (by rfl))) fss_nil)
theorem ok__lengths (T : Txt K mg) : ∀ n : Nat, FnOk P w K mg base (L2.CX P w) (3 + n) T.a__lengths T.d__lengths (["rope", "take", "length"] : List Str) (spD K mg (["rope", "take", "length"] : List Str).length (F__lengths n))
  | 0 => fn_bad
  | n + 1 => by
    have ih := ok__lengths T n
    exact (fn_okD T.F__lengths sc__lengths fun cdv A outer s H E hr tk hp => have hu := units80 hr; have sc := sc__lengths;
      fss_cons (fs_if (ft_cmp (op_gEq hu) (fe_ix ix_gIx (fe_var 0) fe_int (fun _ _ => by rfl)) (fe_gstr (by rfl) T.m_YARN) (by first | exact nomark _ | rfl)) (fss_one (fs_ret (FN.fe (fn_lst (fa_cons (fe_tup (fa_cons (fe_ix ix_gIx (fe_var 0) fe_int (fun _ _ => by rfl)) (fa_cons (fe_var 2) fa_nil))) fa_nil))))) fss_nil) (
      fss_cons (fs_setN sc.nd (fn_lst fa_nil) (hx := (by first | exact Or.inl rfl | exact Or.inr rfl))) (
      fss_cons (fs_for hp (by rfl) (fi_any (fe_ix ix_gIx (fe_var 0) fe_int (fun _ _ => by rfl))) (fg_one 4 sc.nd (by rfl) (by first | exact Or.inl rfl | exact Or.inr rfl)) (keeps_one 4) (
      fss_one (fs_extend true (fe_call (ih) (hr) tk (by rfl) T.m__lengths T.k__lengths T.b__lengths (fa_cons (fe_var 4) (fa_cons (fe_var 1) (fa_cons (fe_call (ok_times T) (hr.mono (Nat.le_trans (show 3 ≤ 3 by decide) (Nat.le_add_right _ _))) tk (by rfl) T.m_times T.k_times T.b_times (fa_cons (fe_var 2) (fa_cons (fe_var 1) fa_nil)) (fun ρ ds h => (sCons_len (sCons_len sNil_len)) ρ ds h)) fa_nil))) (fun ρ ds h => (sCons_len (sCons_len (sCons_len sNil_len))) ρ ds h))))) (fss_one (fs_ret (fe_var 3))))))
theorem ok__needed (T : Txt K mg) : FnOk P w K mg base (L2.CX P w) 24 T.a__needed T.d__needed (["rope", "take", "length"] : List Str) (spD K mg (["rope", "take", "length"] : List Str).length F__needed) :=
  fn_okD T.F__needed sc__needed fun cdv A outer s H E hr tk hp => have hr : Room 23 _ := hr; have hu := units80 hr; have sc := sc__needed;
    fss_cons (fs_setD sc.nd fd_empty (hx := (by first | exact Or.inl rfl | exact Or.inr rfl))) (
    fss_cons (fs_for hp (by rfl) (fi_any (fe_call (ok__lengths T 20) (hr.mono (by decide)) tk (by rfl) T.m__lengths T.k__lengths T.b__lengths (fa_cons (fe_var 0) (fa_cons (fe_var 1) (fa_cons (fe_var 2) fa_nil))) (fun ρ ds h => (sCons_len (sCons_len (sCons_len sNil_len))) ρ ds h))) (fg_tup (by rfl) (fgs_cons (fg_one 4 sc.nd (by rfl) (by first | exact Or.inl rfl | exact Or.inr rfl)) (fgs_cons (fg_one 5 sc.nd (by rfl) (by first | exact Or.inl rfl | exact Or.inr rfl)) fgs_nil))) (keeps_tup (keeps_cons (keeps_one 4) (keeps_cons (keeps_one 5) keeps_nil))) (
    fss_one (fs_putD true hu (fe_call (ok_plus T) (hr.mono (by decide)) tk (by rfl) T.m_plus T.k_plus T.b_plus (fa_cons (fe_get2 hu (fx_own 3) (fe_var 4) (fe_gtup (by rfl) T.m_NOTHING T.g_NOTHING)) (fa_cons (fe_var 5) fa_nil)) (fun ρ ds h => (sCons_len (sCons_len sNil_len)) ρ ds h)) (fe_var 4)))) (fss_one (fs_frzD 3 (fs_ret (fe_var 3)))))
theorem ok_needed (T : Txt K mg) : FnOk P w K mg base (L2.CX P w) 26 T.a_needed T.d_needed (["rope", "take", "length"] : List Str) (spD K mg (["rope", "take", "length"] : List Str).length F_needed) :=
  fn_okD T.F_needed sc_needed fun cdv A outer s H E hr tk hp => have hr : Room 25 _ := hr; have hu := units80 hr; have sc := sc_needed;
    fss_cons (fs_drop true (fe_call (ok__check T) (hr.mono (by decide)) tk (by rfl) T.m__check T.k__check T.b__check (fa_cons (fe_var 0) fa_nil) (fun ρ ds h => (sCons_len sNil_len) ρ ds h))) (
    fss_cons (fs_drop true (fe_call (ok__check_take T) (hr.mono (by decide)) tk (by rfl) T.m__check_take T.k__check_take T.b__check_take (fa_cons (fe_var 1) fa_nil) (fun ρ ds h => (sCons_len sNil_len) ρ ds h))) (
    fss_cons (fs_drop true (fe_call (ok_check_length T) (hr.mono (by decide)) tk (by rfl) T.m_check_length T.k_check_length T.b_check_length (fa_cons (fe_var 2) fa_nil) (fun ρ ds h => (sCons_len sNil_len) ρ ds h))) (
    fss_cons (fs_set true sc.nd (fe_call (ok__needed T) (hr.mono (by decide)) tk (by rfl) T.m__needed T.k__needed T.b__needed (fa_cons (fe_var 0) (fa_cons (fe_var 1) (fa_cons (fe_tup (fa_cons (fe_var 2) (fa_cons fe_int fa_nil))) fa_nil))) (fun ρ ds h => (sCons_len (sCons_len (sCons_len sNil_len))) ρ ds h)) (hx := (by first | exact Or.inl rfl | exact Or.inr rfl))) (
    fss_one (fs_ret (fe_cty cr_bTuple (by rfl) T.n_tuple (by first | rfl | decide +kernel) (fa_cons (FN.fe (fn_lc (by rfl) sc.nd (fi_any (FN.fe (fn_cb (cr_bSortedD (by rfl) hu) (by rfl) T.n_sorted (by first | rfl | decide +kernel) (fa_cons (fe_var 3) fa_nil)))) (blkOk_by (own := [("colour", 4)]) (by kernel_rfl)) (by decide) (fun _ _ _ _ _ => fg_one 4 sc.nd (by rfl) (by first | exact Or.inl rfl | exact Or.inr rfl)) (fun _ _ _ _ _ => fts_nil) (fun _ _ _ _ _ => fe_tup (fa_cons (fe_var 4) (fa_cons (fe_dix hu (fx_val (fe_var 3)) (fe_var 4) (fun _ _ => by rfl)) fa_nil))))) fa_nil)))))))
theorem ok_ascends (T : Txt K mg) : FnOk P w K mg base (L2.CX P w) 1 T.a_ascends T.d_ascends (["values"] : List Str) (spD K mg (["values"] : List Str).length F_ascends) :=
  fn_okD T.F_ascends sc_ascends fun cdv A outer s H E hr tk hp => have hr : Room 0 _ := hr; have hu := units80 hr; have sc := sc_ascends;
    fss_one (fs_ret (fe_cb (cr_bAll (by rfl)) (by rfl) T.n_all (by first | rfl | decide +kernel) (fa_cons (FN.fe (fn_lc (by rfl) sc.nd (fi_zip (by rfl) T.n_zip (fa_cons (fe_var 0) (fa_cons (fe_slice (fe_var 0) (fo_some fe_int) fo_none) fa_nil))) (blkOk_by (own := [("one", 1), ("later", 2)]) (by kernel_rfl)) (by decide) (fun _ _ _ _ _ => fg_tup (by rfl) (fgs_cons (fg_one 1 sc.nd (by rfl) (by first | exact Or.inl rfl | exact Or.inr rfl)) (fgs_cons (fg_one 2 sc.nd (by rfl) (by first | exact Or.inl rfl | exact Or.inr rfl)) fgs_nil))) (fun _ _ _ _ _ => fts_nil) (fun _ _ _ _ _ => fe_cmp (op_gLt hu) (fe_var 1) (fe_var 2) (by first | exact nomark _ | rfl)))) fa_nil)))
theorem ok__is_kept (T : Txt K mg) : FnOk P w K mg base (L2.CX P w) 2 T.a__is_kept T.d__is_kept (["value"] : List Str) (spD K mg (["value"] : List Str).length F__is_kept) :=
  fn_okD T.F__is_kept sc__is_kept fun cdv A outer s H E hr tk hp => have hr : Room 1 _ := hr; have hu := units80 hr; have sc := sc__is_kept;
    fss_one (fs_ret (fe_and (fe_isa (by rfl) T.n_isinstance (by first | rfl | decide +kernel) (by rfl) T.n_tuple (by first | rfl | decide +kernel) (fe_var 0)) (fe_and (fe_cmp (op_gEq hu) (fe_cb cr_bLen (by rfl) T.n_len (by first | rfl | decide +kernel) (fa_cons (fe_var 0) fa_nil)) fe_int (by first | exact nomark _ | rfl)) (fe_and (fe_call (ok_is_colour T) (hr.mono (by decide)) tk (by rfl) T.m_is_colour T.k_is_colour T.b_is_colour (fa_cons (fe_ix ix_gIx (fe_var 0) fe_int (fun _ _ => by rfl)) fa_nil) (fun ρ ds h => (sCons_len sNil_len) ρ ds h)) (fe_one (fe_call (ok_is_whole T) (hr.mono (by decide)) tk (by rfl) T.m_is_whole T.k_is_whole T.b_is_whole (fa_cons (fe_ix ix_gIx (fe_var 0) fe_int (fun _ _ => by rfl)) (fa_cons fe_int (fa_cons (fe_gint (by rfl) T.m_MOST_STOCK) fa_nil))) (fun ρ ds h => (sCons_len (sCons_len (sCons_len sNil_len))) ρ ds h)))))))
theorem ok_longest (T : Txt K mg) : FnOk P w K mg base (L2.CX P w) 26 T.a_longest T.d_longest (["rope", "take", "stock"] : List Str) (spD K mg (["rope", "take", "stock"] : List Str).length F_longest) :=
  fn_okD T.F_longest sc_longest fun cdv A outer s H E hr tk hp => have hr : Room 25 _ := hr; have hu := units80 hr; have sc := sc_longest;
    fss_cons (fs_drop true (fe_call (ok__check T) (hr.mono (by decide)) tk (by rfl) T.m__check T.k__check T.b__check (fa_cons (fe_var 0) fa_nil) (fun ρ ds h => (sCons_len sNil_len) ρ ds h))) (
    fss_cons (fs_drop true (fe_call (ok__check_take T) (hr.mono (by decide)) tk (by rfl) T.m__check_take T.k__check_take T.b__check_take (fa_cons (fe_var 1) fa_nil) (fun ρ ds h => (sCons_len sNil_len) ρ ds h))) (
    fss_cons (fs_if (FW.ft (fw_or (ft_not (ft_val (fe_isa (by rfl) T.n_isinstance (by first | rfl | decide +kernel) (by rfl) T.n_tuple (by first | rfl | decide +kernel) (fe_var 2)))) (fw_or1 (ft_not (ft_val (fe_cb (cr_bAll (by rfl)) (by rfl) T.n_all (by first | rfl | decide +kernel) (fa_cons (FN.fe (fn_lc (by rfl) sc.nd (fi_any (fe_var 2)) (blkOk_by (own := [("one", 3)]) (by kernel_rfl)) (by decide) (fun _ _ _ _ _ => fg_one 3 sc.nd (by rfl) (by first | exact Or.inl rfl | exact Or.inr rfl)) (fun _ _ _ _ _ => fts_nil) (fun _ _ _ _ _ => fe_call (ok__is_kept T) (hr.mono (by decide)) tk0 (by rfl) T.m__is_kept T.k__is_kept T.b__is_kept (fa_cons (fe_var 3) fa_nil) (fun ρ ds h => (sCons_len sNil_len) ρ ds h)))) fa_nil))))))) (fss_one (fs_raise (by rfl) tk PySem.F.excBase_ValueError T.x_BadStock T.m_BadStock T.k_BadStock (raises_own T.b_BadStock T.y_BadStock) (by rfl))) fss_nil) (
    fss_cons (fs_if (ft_not (ft_val (fe_call (ok_ascends T) (hr.mono (by decide)) tk (by rfl) T.m_ascends T.k_ascends T.b_ascends (fa_cons (FN.fe (fn_lc (by rfl) sc.nd (fi_any (fe_var 2)) (blkOk_by (own := [("colour", 4), ("_much", 5)]) (by kernel_rfl)) (by decide) (fun _ _ _ _ _ => fg_tup (by rfl) (fgs_cons (fg_one 4 sc.nd (by rfl) (by first | exact Or.inl rfl | exact Or.inr rfl)) (fgs_cons (fg_one 5 sc.nd (by rfl) (by first | exact Or.inl rfl | exact Or.inr rfl)) fgs_nil))) (fun _ _ _ _ _ => fts_nil) (fun _ _ _ _ _ => fe_var 4))) fa_nil) (fun ρ ds h => (sCons_len sNil_len) ρ ds h)))) (fss_one (fs_raise (by rfl) tk PySem.F.excBase_ValueError T.x_BadStock T.m_BadStock T.k_BadStock (raises_own T.b_BadStock T.y_BadStock) (by rfl))) fss_nil) (
    fss_cons (fs_set true sc.nd (FD.fe (fd_dict (by rfl) (by rfl) T.n_dict (by first | rfl | decide +kernel) (fa_cons (fe_var 2) fa_nil))) (hx := (by first | exact Or.inl rfl | exact Or.inr rfl))) (
    fss_cons (fs_set true sc.nd (fe_call (ok__needed T) (hr.mono (by decide)) tk (by rfl) T.m__needed T.k__needed T.b__needed (fa_cons (fe_var 0) (fa_cons (fe_var 1) (fa_cons (fe_gtup (by rfl) T.m_ONE T.g_ONE) fa_nil))) (fun ρ ds h => (sCons_len (sCons_len (sCons_len sNil_len))) ρ ds h)) (hx := (by first | exact Or.inl rfl | exact Or.inr rfl))) (
    fss_cons (fs_lc true (ps_lcSet (i := 8) (by rfl) sc.nd (by rfl) (by rfl) (sw_true (by rfl) (by rfl) (by rfl) (by decide)) (fi_keys (fe_var 7)) (blkOk_by (own := [("colour", 4)]) (by kernel_rfl)) (by decide) (fun _ _ _ _ _ => fg_one 4 sc.nd (by rfl) (by first | exact Or.inl rfl | exact Or.inr rfl)) (fun _ _ _ _ _ => fts_nil) (fun _ _ _ _ _ => fe_call (ok_over T) (hr.mono (by decide)) tk0 (by rfl) T.m_over T.k_over T.b_over (fa_cons (fe_tup (fa_cons (fe_get2 hu (fx_val (fe_var 6)) (fe_var 4) fe_int) (fa_cons fe_int fa_nil))) (fa_cons (fe_dix hu (fx_val (fe_var 7)) (fe_var 4) (fun _ _ => by rfl)) fa_nil)) (fun ρ ds h => (sCons_len (sCons_len sNil_len)) ρ ds h)))) (
    fss_cons (fs_set true sc.nd (fe_ix ix_gIx (fe_var 8) fe_int (fun _ _ => by rfl)) (hx := (by first | exact Or.inl rfl | exact Or.inr rfl))) (
    fss_cons (fs_for hp (by rfl) (fi_any (fe_var 8)) (fg_one 10 sc.nd (by rfl) (by first | exact Or.inl rfl | exact Or.inr rfl)) (keeps_one 10) (
    fss_one (fs_set true sc.nd (fe_ite (ft_val (fe_call (ok_is_less T) (hr.mono (by decide)) tk (by rfl) T.m_is_less T.k_is_less T.b_is_less (fa_cons (fe_var 10) (fa_cons (fe_var 9) fa_nil)) (fun ρ ds h => (sCons_len (sCons_len sNil_len)) ρ ds h))) (fe_var 10) (fe_var 9)) (hx := (by first | exact Or.inl rfl | exact Or.inr rfl))))) (fss_one (fs_ret (fe_var 9)))))))))))
theorem ok_check_colours (T : Txt K mg) : FnOk P w K mg base (L2.CX P w) 2 T.a_check_colours T.d_check_colours (["colours"] : List Str) (spD K mg (["colours"] : List Str).length F_check_colours) :=
  fn_okD T.F_check_colours sc_check_colours fun cdv A outer s H E hr tk hp => have hr : Room 1 _ := hr; have hu := units80 hr; have sc := sc_check_colours;
    fss_cons (fs_if (FW.ft (fw_or (ft_not (ft_val (fe_isa (by rfl) T.n_isinstance (by first | rfl | decide +kernel) (by rfl) T.n_tuple (by first | rfl | decide +kernel) (fe_var 0)))) (fw_or1 (ft_not (ft_chain (op_gLe hu) (op_gLe hu) fe_int (fe_cb cr_bLen (by rfl) T.n_len (by first | rfl | decide +kernel) (fa_cons (fe_var 0) fa_nil)) (fe_gint (by rfl) T.m_MOST_STRANDS)))))) (fss_one (fs_raise (by rfl) tk PySem.F.excBase_ValueError T.x_BadColours T.m_BadColours T.k_BadColours (raises_own T.b_BadColours T.y_BadColours) (by rfl))) fss_nil) (
    fss_one (fs_if (ft_not (ft_val (fe_cb (cr_bAll (by rfl)) (by rfl) T.n_all (by first | rfl | decide +kernel) (fa_cons (FN.fe (fn_lc (by rfl) sc.nd (fi_any (fe_var 0)) (blkOk_by (own := [("one", 1)]) (by kernel_rfl)) (by decide) (fun _ _ _ _ _ => fg_one 1 sc.nd (by rfl) (by first | exact Or.inl rfl | exact Or.inr rfl)) (fun _ _ _ _ _ => fts_nil) (fun _ _ _ _ _ => fe_call (ok_is_colour T) (hr.mono (by decide)) tk0 (by rfl) T.m_is_colour T.k_is_colour T.b_is_colour (fa_cons (fe_var 1) fa_nil) (fun ρ ds h => (sCons_len sNil_len) ρ ds h)))) fa_nil)))) (fss_one (fs_raise (by rfl) tk PySem.F.excBase_ValueError T.x_BadColours T.m_BadColours T.k_BadColours (raises_own T.b_BadColours T.y_BadColours) (by rfl))) fss_nil))
theorem ok__turned (T : Txt K mg) : FnOk P w K mg base (L2.CX P w) 1 T.a__turned T.d__turned (["colours", "steps"] : List Str) (spD K mg (["colours", "steps"] : List Str).length F__turned) :=
  fn_okD T.F__turned sc__turned fun cdv A outer s H E hr tk hp => have hr : Room 0 _ := hr; have hu := units80 hr; have sc := sc__turned;
    fss_cons (fs_set true sc.nd (fe_bin op_gMod (fe_var 1) (fe_cb cr_bLen (by rfl) T.n_len (by first | rfl | decide +kernel) (fa_cons (fe_var 0) fa_nil))) (hx := (by first | exact Or.inl rfl | exact Or.inr rfl))) (
    fss_one (fs_ret (fe_bin op_gAdd (fe_slice (fe_var 0) (fo_some (fe_var 2)) fo_none) (fe_slice (fe_var 0) fo_none (fo_some (fe_var 2))))))
theorem ok__least_steps (T : Txt K mg) : FnOk P w K mg base (L2.CX P w) 2 T.a__least_steps T.d__least_steps (["colours"] : List Str) (spD K mg (["colours"] : List Str).length F__least_steps) :=
  fn_okD T.F__least_steps sc__least_steps fun cdv A outer s H E hr tk hp => have hr : Room 1 _ := hr; have hu := units80 hr; have sc := sc__least_steps;
    fss_one (fs_ret (fe_ix ix_gIx (FN.fe (fn_lc (by rfl) sc.nd (fi_range2 (by rfl) T.n_range (fa_cons fe_int (fa_cons (fe_bin op_gAdd (fe_cb cr_bLen (by rfl) T.n_len (by first | rfl | decide +kernel) (fa_cons (fe_var 0) fa_nil)) fe_int) fa_nil))) (blkOk_by (own := [("steps", 1)]) (by kernel_rfl)) (by decide) (fun _ _ _ _ _ => fg_one 1 sc.nd (by rfl) (by first | exact Or.inl rfl | exact Or.inr rfl)) (fun _ _ _ _ _ => fts_one (ft_cmp (op_gEq hu) (fe_call (ok__turned T) (hr.mono (by decide)) tk0 (by rfl) T.m__turned T.k__turned T.b__turned (fa_cons (fe_var 0) (fa_cons (fe_var 1) fa_nil)) (fun ρ ds h => (sCons_len (sCons_len sNil_len)) ρ ds h)) (fe_var 0) (by first | exact nomark _ | rfl))) (fun _ _ _ _ _ => fe_var 1))) fe_int (fun _ _ => by rfl)))
theorem ok_least_steps (T : Txt K mg) : FnOk P w K mg base (L2.CX P w) 3 T.a_least_steps T.d_least_steps (["colours"] : List Str) (spD K mg (["colours"] : List Str).length F_least_steps) :=
  fn_okD T.F_least_steps sc_least_steps fun cdv A outer s H E hr tk hp => have hr : Room 2 _ := hr; have hu := units80 hr; have sc := sc_least_steps;
    fss_cons (fs_drop true (fe_call (ok_check_colours T) (hr.mono (by decide)) tk (by rfl) T.m_check_colours T.k_check_colours T.b_check_colours (fa_cons (fe_var 0) fa_nil) (fun ρ ds h => (sCons_len sNil_len) ρ ds h))) (
    fss_one (fs_ret (fe_call (ok__least_steps T) (hr.mono (by decide)) tk (by rfl) T.m__least_steps T.k__least_steps T.b__least_steps (fa_cons (fe_var 0) fa_nil) (fun ρ ds h => (sCons_len sNil_len) ρ ds h))))
theorem ok__check_lay (T : Txt K mg) : FnOk P w K mg base (L2.CX P w) 4 T.a__check_lay T.d__check_lay (["lay"] : List Str) (spD K mg (["lay"] : List Str).length F__check_lay) :=
  fn_okD T.F__check_lay sc__check_lay fun cdv A outer s H E hr tk hp => have hr : Room 3 _ := hr; have hu := units80 hr; have sc := sc__check_lay;
    fss_one (fs_if (ft_not (ft_val (fe_call (ok_is_lay T) (hr.mono (by decide)) tk (by rfl) T.m_is_lay T.k_is_lay T.b_is_lay (fa_cons (fe_var 0) fa_nil) (fun ρ ds h => (sCons_len sNil_len) ρ ds h)))) (fss_one (fs_raise (by rfl) tk PySem.F.excBase_ValueError T.x_BadLay T.m_BadLay T.k_BadLay (raises_own T.b_BadLay T.y_BadLay) (by rfl))) fss_nil)
theorem ok__again (T : Txt K mg) : FnOk P w K mg base (L2.CX P w) 4 T.a__again T.d__again (["colours", "lay"] : List Str) (spD K mg (["colours", "lay"] : List Str).length F__again) :=
  fn_okD T.F__again sc__again fun cdv A outer s H E hr tk hp => have hr : Room 3 _ := hr; have hu := units80 hr; have sc := sc__again;
    fss_one (fs_ret (fe_call (ok_times T) (hr.mono (by decide)) tk (by rfl) T.m_times T.k_times T.b_times (fa_cons (fe_var 1) (fa_cons (fe_call (ok_quotient T) (hr.mono (by decide)) tk (by rfl) T.m_quotient T.k_quotient T.b_quotient (fa_cons (fe_call (ok__least_steps T) (hr.mono (by decide)) tk (by rfl) T.m__least_steps T.k__least_steps T.b__least_steps (fa_cons (fe_var 0) fa_nil) (fun ρ ds h => (sCons_len sNil_len) ρ ds h)) (fa_cons (fe_cb cr_bLen (by rfl) T.n_len (by first | rfl | decide +kernel) (fa_cons (fe_var 0) fa_nil)) fa_nil)) (fun ρ ds h => (sCons_len (sCons_len sNil_len)) ρ ds h)) fa_nil)) (fun ρ ds h => (sCons_len (sCons_len sNil_len)) ρ ds h)))
theorem ok_comes_again (T : Txt K mg) : FnOk P w K mg base (L2.CX P w) 5 T.a_comes_again T.d_comes_again (["colours", "lay"] : List Str) (spD K mg (["colours", "lay"] : List Str).length F_comes_again) :=
  fn_okD T.F_comes_again sc_comes_again fun cdv A outer s H E hr tk hp => have hr : Room 4 _ := hr; have hu := units80 hr; have sc := sc_comes_again;
    fss_cons (fs_drop true (fe_call (ok_check_colours T) (hr.mono (by decide)) tk (by rfl) T.m_check_colours T.k_check_colours T.b_check_colours (fa_cons (fe_var 0) fa_nil) (fun ρ ds h => (sCons_len sNil_len) ρ ds h))) (
    fss_cons (fs_drop true (fe_call (ok__check_lay T) (hr.mono (by decide)) tk (by rfl) T.m__check_lay T.k__check_lay T.b__check_lay (fa_cons (fe_var 1) fa_nil) (fun ρ ds h => (sCons_len sNil_len) ρ ds h))) (
    fss_one (fs_ret (fe_call (ok__again T) (hr.mono (by decide)) tk (by rfl) T.m__again T.k__again T.b__again (fa_cons (fe_var 0) (fa_cons (fe_var 1) fa_nil)) (fun ρ ds h => (sCons_len (sCons_len sNil_len)) ρ ds h)))))
theorem ok_both_again (T : Txt K mg) : FnOk P w K mg base (L2.CX P w) 5 T.a_both_again T.d_both_again (["colours", "lay", "others", "other"] : List Str) (spD K mg (["colours", "lay", "others", "other"] : List Str).length F_both_again) :=
  fn_okD T.F_both_again sc_both_again fun cdv A outer s H E hr tk hp => have hr : Room 4 _ := hr; have hu := units80 hr; have sc := sc_both_again;
    fss_cons (fs_drop true (fe_call (ok_check_colours T) (hr.mono (by decide)) tk (by rfl) T.m_check_colours T.k_check_colours T.b_check_colours (fa_cons (fe_var 0) fa_nil) (fun ρ ds h => (sCons_len sNil_len) ρ ds h))) (
    fss_cons (fs_drop true (fe_call (ok__check_lay T) (hr.mono (by decide)) tk (by rfl) T.m__check_lay T.k__check_lay T.b__check_lay (fa_cons (fe_var 1) fa_nil) (fun ρ ds h => (sCons_len sNil_len) ρ ds h))) (
    fss_cons (fs_drop true (fe_call (ok_check_colours T) (hr.mono (by decide)) tk (by rfl) T.m_check_colours T.k_check_colours T.b_check_colours (fa_cons (fe_var 2) fa_nil) (fun ρ ds h => (sCons_len sNil_len) ρ ds h))) (
    fss_cons (fs_drop true (fe_call (ok__check_lay T) (hr.mono (by decide)) tk (by rfl) T.m__check_lay T.k__check_lay T.b__check_lay (fa_cons (fe_var 3) fa_nil) (fun ρ ds h => (sCons_len sNil_len) ρ ds h))) (
    fss_cons (fs_par true (by rfl) sc.nd (fa_cons (fe_call (ok__again T) (hr.mono (by decide)) tk (by rfl) T.m__again T.k__again T.b__again (fa_cons (fe_var 0) (fa_cons (fe_var 1) fa_nil)) (fun ρ ds h => (sCons_len (sCons_len sNil_len)) ρ ds h)) (fa_cons (fe_call (ok__again T) (hr.mono (by decide)) tk (by rfl) T.m__again T.k__again T.b__again (fa_cons (fe_var 2) (fa_cons (fe_var 3) fa_nil)) (fun ρ ds h => (sCons_len (sCons_len sNil_len)) ρ ds h)) fa_nil)) (by decide)) (
    fss_cons (fs_set true sc.nd (fe_call (ok_over T) (hr.mono (by decide)) tk (by rfl) T.m_over T.k_over T.b_over (fa_cons (fe_var 4) (fa_cons (fe_var 5) fa_nil)) (fun ρ ds h => (sCons_len (sCons_len sNil_len)) ρ ds h)) (hx := (by first | exact Or.inl rfl | exact Or.inr rfl))) (
    fss_one (fs_ret (fe_call (ok_times T) (hr.mono (by decide)) tk (by rfl) T.m_times T.k_times T.b_times (fa_cons (fe_var 4) (fa_cons (fe_tup (fa_cons (fe_ix ix_gIx (fe_var 6) fe_int (fun _ _ => by rfl)) (fa_cons fe_int fa_nil))) fa_nil)) (fun ρ ds h => (sCons_len (sCons_len sNil_len)) ρ ds h)))))))))
theorem ok__least_turned (T : Txt K mg) : FnOk P w K mg base (L2.CX P w) 2 T.a__least_turned T.d__least_turned (["colours"] : List Str) (spD K mg (["colours"] : List Str).length F__least_turned) :=
  fn_okD T.F__least_turned sc__least_turned fun cdv A outer s H E hr tk hp => have hr : Room 1 _ := hr; have hu := units80 hr; have sc := sc__least_turned;
    fss_one (fs_ret (fe_cb (cr_bMin (by rfl) hu) (by rfl) T.n_min (by first | rfl | decide +kernel) (fa_cons (FN.fe (fn_lc (by rfl) sc.nd (fi_range1 (by rfl) T.n_range (fa_cons (fe_cb cr_bLen (by rfl) T.n_len (by first | rfl | decide +kernel) (fa_cons (fe_var 0) fa_nil)) fa_nil)) (blkOk_by (own := [("steps", 1)]) (by kernel_rfl)) (by decide) (fun _ _ _ _ _ => fg_one 1 sc.nd (by rfl) (by first | exact Or.inl rfl | exact Or.inr rfl)) (fun _ _ _ _ _ => fts_nil) (fun _ _ _ _ _ => fe_call (ok__turned T) (hr.mono (by decide)) tk0 (by rfl) T.m__turned T.k__turned T.b__turned (fa_cons (fe_var 0) (fa_cons (fe_var 1) fa_nil)) (fun ρ ds h => (sCons_len (sCons_len sNil_len)) ρ ds h)))) fa_nil)))
theorem ok__mirrored (T : Txt K mg) : FnOk P w K mg base (L2.CX P w) 1 T.a__mirrored T.d__mirrored (["colours"] : List Str) (spD K mg (["colours"] : List Str).length F__mirrored) :=
  fn_okD T.F__mirrored sc__mirrored fun cdv A outer s H E hr tk hp => have hr : Room 0 _ := hr; have hu := units80 hr; have sc := sc__mirrored;
    fss_one (fs_ret (fe_bin op_gAdd (fe_slice (fe_var 0) fo_none (fo_some fe_int)) (fe_rev (fe_slice (fe_var 0) (fo_some fe_int) fo_none))))
theorem ok_is_even_handed (T : Txt K mg) : FnOk P w K mg base (L2.CX P w) 3 T.a_is_even_handed T.d_is_even_handed (["colours"] : List Str) (spD K mg (["colours"] : List Str).length F_is_even_handed) :=
  fn_okD T.F_is_even_handed sc_is_even_handed fun cdv A outer s H E hr tk hp => have hr : Room 2 _ := hr; have hu := units80 hr; have sc := sc_is_even_handed;
    fss_cons (fs_drop true (fe_call (ok_check_colours T) (hr.mono (by decide)) tk (by rfl) T.m_check_colours T.k_check_colours T.b_check_colours (fa_cons (fe_var 0) fa_nil) (fun ρ ds h => (sCons_len sNil_len) ρ ds h))) (
    fss_one (fs_ret (fe_cmp (op_gEq hu) (fe_call (ok__least_turned T) (hr.mono (by decide)) tk (by rfl) T.m__least_turned T.k__least_turned T.b__least_turned (fa_cons (fe_call (ok__mirrored T) (hr.mono (by decide)) tk (by rfl) T.m__mirrored T.k__mirrored T.b__mirrored (fa_cons (fe_var 0) fa_nil) (fun ρ ds h => (sCons_len sNil_len) ρ ds h)) fa_nil) (fun ρ ds h => (sCons_len sNil_len) ρ ds h)) (fe_call (ok__least_turned T) (hr.mono (by decide)) tk (by rfl) T.m__least_turned T.k__least_turned T.b__least_turned (fa_cons (fe_var 0) fa_nil) (fun ρ ds h => (sCons_len sNil_len) ρ ds h)) (by first | exact nomark _ | rfl))))
theorem ok_least_turned (T : Txt K mg) : FnOk P w K mg base (L2.CX P w) 3 T.a_least_turned T.d_least_turned (["colours"] : List Str) (spD K mg (["colours"] : List Str).length F_least_turned) :=
  fn_okD T.F_least_turned sc_least_turned fun cdv A outer s H E hr tk hp => have hr : Room 2 _ := hr; have hu := units80 hr; have sc := sc_least_turned;
    fss_cons (fs_drop true (fe_call (ok_check_colours T) (hr.mono (by decide)) tk (by rfl) T.m_check_colours T.k_check_colours T.b_check_colours (fa_cons (fe_var 0) fa_nil) (fun ρ ds h => (sCons_len sNil_len) ρ ds h))) (
    fss_one (fs_ret (fe_call (ok__least_turned T) (hr.mono (by decide)) tk (by rfl) T.m__least_turned T.k__least_turned T.b__least_turned (fa_cons (fe_var 0) fa_nil) (fun ρ ds h => (sCons_len sNil_len) ρ ds h))))
theorem ok_same_rope (T : Txt K mg) : FnOk P w K mg base (L2.CX P w) 3 T.a_same_rope T.d_same_rope (["colours", "other"] : List Str) (spD K mg (["colours", "other"] : List Str).length F_same_rope) :=
  fn_okD T.F_same_rope sc_same_rope fun cdv A outer s H E hr tk hp => have hr : Room 2 _ := hr; have hu := units80 hr; have sc := sc_same_rope;
    fss_cons (fs_drop true (fe_call (ok_check_colours T) (hr.mono (by decide)) tk (by rfl) T.m_check_colours T.k_check_colours T.b_check_colours (fa_cons (fe_var 0) fa_nil) (fun ρ ds h => (sCons_len sNil_len) ρ ds h))) (
    fss_cons (fs_drop true (fe_call (ok_check_colours T) (hr.mono (by decide)) tk (by rfl) T.m_check_colours T.k_check_colours T.b_check_colours (fa_cons (fe_var 1) fa_nil) (fun ρ ds h => (sCons_len sNil_len) ρ ds h))) (
    fss_one (fs_ret (fe_cmp (op_gEq hu) (fe_call (ok__least_turned T) (hr.mono (by decide)) tk (by rfl) T.m__least_turned T.k__least_turned T.b__least_turned (fa_cons (fe_var 0) fa_nil) (fun ρ ds h => (sCons_len sNil_len) ρ ds h)) (fe_call (ok__least_turned T) (hr.mono (by decide)) tk (by rfl) T.m__least_turned T.k__least_turned T.b__least_turned (fa_cons (fe_var 1) fa_nil) (fun ρ ds h => (sCons_len sNil_len) ρ ds h)) (by first | exact nomark _ | rfl)))))
theorem ok__orders (T : Txt K mg) : FnOk P w K mg base (L2.CX P w) 1 T.a__orders T.d__orders (["counts"] : List Str) (spD K mg (["counts"] : List Str).length F__orders) :=
  fn_okD T.F__orders sc__orders fun cdv A outer s H E hr tk hp => have hr : Room 0 _ := hr; have hu := units80 hr; have sc := sc__orders;
    fss_cons (fs_set true sc.nd fe_int (hx := (by first | exact Or.inl rfl | exact Or.inr rfl))) (
    fss_cons (fs_set true sc.nd fe_int (hx := (by first | exact Or.inl rfl | exact Or.inr rfl))) (
    fss_cons (fs_for hp (by rfl) (fi_any (fe_var 0)) (fg_one 3 sc.nd (by rfl) (by first | exact Or.inl rfl | exact Or.inr rfl)) (keeps_one 3) (
    fss_one (fs_for hp (by rfl) (fi_range2 (by rfl) T.n_range (fa_cons fe_int (fa_cons (fe_bin op_gAdd (fe_var 3) fe_int) fa_nil))) (fg_one 4 sc.nd (by rfl) (by first | exact Or.inl rfl | exact Or.inr rfl)) (keeps_one 4) (
    fss_cons (fs_aug sc.nd ip_gAdd fe_int (hx := (by first | exact Or.inl rfl | exact Or.inr rfl))) (
    fss_one (fs_set true sc.nd (fe_bin op_gFdiv (fe_bin op_gMulT (fe_var 1) (fe_var 2)) (fe_var 4)) (hx := (by first | exact Or.inl rfl | exact Or.inr rfl)))))))) (fss_one (fs_ret (fe_var 1)))))
theorem ok_count_with (T : Txt K mg) : FnOk P w K mg base (L2.CX P w) 3 T.a_count_with T.d_count_with (["counts"] : List Str) (spD K mg (["counts"] : List Str).length F_count_with) :=
  fn_okD T.F_count_with sc_count_with fun cdv A outer s H E hr tk hp => have hr : Room 2 _ := hr; have hu := units80 hr; have sc := sc_count_with;
    fss_cons (fs_drop true (fe_call (ok__check_counts T) (hr.mono (by decide)) tk (by rfl) T.m__check_counts T.k__check_counts T.b__check_counts (fa_cons (fe_var 0) fa_nil) (fun ρ ds h => (sCons_len sNil_len) ρ ds h))) (
    fss_cons (fs_set true sc.nd (fe_cb (cr_bSum (by rfl)) (by rfl) T.n_sum (by first | rfl | decide +kernel) (fa_cons (fe_var 0) fa_nil)) (hx := (by first | exact Or.inl rfl | exact Or.inr rfl))) (
    fss_cons (fs_set true sc.nd fe_int (hx := (by first | exact Or.inl rfl | exact Or.inr rfl))) (
    fss_cons (fs_for hp (by rfl) (fi_range2 (by rfl) T.n_range (fa_cons fe_int (fa_cons (fe_bin op_gAdd (fe_var 1) fe_int) fa_nil))) (fg_one 3 sc.nd (by rfl) (by first | exact Or.inl rfl | exact Or.inr rfl)) (keeps_one 3) (
    fss_cons (fs_set true sc.nd (fe_bin op_gFdiv (fe_var 1) (fe_call (ok_divisor T) (hr.mono (by decide)) tk (by rfl) T.m_divisor T.k_divisor T.b_divisor (fa_cons (fe_var 3) (fa_cons (fe_var 1) fa_nil)) (fun ρ ds h => (sCons_len (sCons_len sNil_len)) ρ ds h))) (hx := (by first | exact Or.inl rfl | exact Or.inr rfl))) (
    fss_one (fs_if (ft_val (fe_cb (cr_bAll (by rfl)) (by rfl) T.n_all (by first | rfl | decide +kernel) (fa_cons (FN.fe (fn_lc (by rfl) sc.nd (fi_any (fe_var 0)) (blkOk_by (own := [("count", 5)]) (by kernel_rfl)) (by decide) (fun _ _ _ _ _ => fg_one 5 sc.nd (by rfl) (by first | exact Or.inl rfl | exact Or.inr rfl)) (fun _ _ _ _ _ => fts_nil) (fun _ _ _ _ _ => fe_cmp (op_gEq hu) (fe_bin op_gMod (fe_var 5) (fe_var 4)) fe_int (by first | exact nomark _ | rfl)))) fa_nil))) (fss_one (fs_aug sc.nd ip_gAdd (fe_call (ok__orders T) (hr.mono (by decide)) tk (by rfl) T.m__orders T.k__orders T.b__orders (fa_cons (FN.fe (fn_lc (by rfl) sc.nd (fi_any (fe_var 0)) (blkOk_by (own := [("count", 5)]) (by kernel_rfl)) (by decide) (fun _ _ _ _ _ => fg_one 5 sc.nd (by rfl) (by first | exact Or.inl rfl | exact Or.inr rfl)) (fun _ _ _ _ _ => fts_nil) (fun _ _ _ _ _ => fe_bin op_gFdiv (fe_var 5) (fe_var 4)))) fa_nil) (fun ρ ds h => (sCons_len sNil_len) ρ ds h)) (hx := (by first | exact Or.inl rfl | exact Or.inr rfl)))) fss_nil)))) (fss_one (fs_ret (fe_bin op_gFdiv (fe_var 2) (fe_var 1)))))))
theorem ok__turned_over (T : Txt K mg) : ∀ n : Nat, FnOk P w K mg base (L2.CX P w) (0 + n) T.a__turned_over T.d__turned_over (["rope"] : List Str) (spD K mg (["rope"] : List Str).length (F__turned_over n))
  | 0 => fn_bad
  | n + 1 => by
    have ih := ok__turned_over T n
    exact (fn_okD T.F__turned_over sc__turned_over fun cdv A outer s H E hr tk hp => have hu := units80 hr; have sc := sc__turned_over;
      fss_cons (fs_if (ft_cmp (op_gEq hu) (fe_ix ix_gIx (fe_var 0) fe_int (fun _ _ => by rfl)) (fe_gstr (by rfl) T.m_YARN) (by first | exact nomark _ | rfl)) (fss_one (fs_ret (fe_var 0))) fss_nil) (
      fss_one (fs_ret (fe_tup (fa_cons (fe_ite (ft_cmp (op_gEq hu) (fe_ix ix_gIx (fe_var 0) fe_int (fun _ _ => by rfl)) fe_str (by first | exact nomark _ | rfl)) fe_str fe_str) (fa_cons (fe_ix ix_gIx (fe_var 0) fe_int (fun _ _ => by rfl)) (fa_cons (fe_cty cr_bTuple (by rfl) T.n_tuple (by first | rfl | decide +kernel) (fa_cons (FN.fe (fn_lc (by rfl) sc.nd (fi_any (fe_ix ix_gIx (fe_var 0) fe_int (fun _ _ => by rfl))) (blkOk_by (own := [("part", 1)]) (by kernel_rfl)) (by decide) (fun _ _ _ _ _ => fg_one 1 sc.nd (by rfl) (by first | exact Or.inl rfl | exact Or.inr rfl)) (fun _ _ _ _ _ => fts_nil) (fun _ _ _ _ _ => fe_call (ih) (hr) tk0 (by rfl) T.m__turned_over T.k__turned_over T.b__turned_over (fa_cons (fe_var 1) fa_nil) (fun ρ ds h => (sCons_len sNil_len) ρ ds h)))) fa_nil)) fa_nil)))))))
theorem ok_turned_over (T : Txt K mg) : FnOk P w K mg base (L2.CX P w) 26 T.a_turned_over T.d_turned_over (["rope"] : List Str) (spD K mg (["rope"] : List Str).length F_turned_over) :=
  fn_okD T.F_turned_over sc_turned_over fun cdv A outer s H E hr tk hp => have hr : Room 25 _ := hr; have hu := units80 hr; have sc := sc_turned_over;
    fss_cons (fs_drop true (fe_call (ok__check T) (hr.mono (by decide)) tk (by rfl) T.m__check T.k__check T.b__check (fa_cons (fe_var 0) fa_nil) (fun ρ ds h => (sCons_len sNil_len) ρ ds h))) (
    fss_one (fs_ret (fe_call (ok__turned_over T 20) (hr.mono (by decide)) tk (by rfl) T.m__turned_over T.k__turned_over T.b__turned_over (fa_cons (fe_var 0) fa_nil) (fun ρ ds h => (sCons_len sNil_len) ρ ds h))))
theorem ok_quiet_lay (T : Txt K mg) : FnOk P w K mg base (L2.CX P w) 24 T.a_quiet_lay T.d_quiet_lay (["turn", "parts"] : List Str) (spD K mg (["turn", "parts"] : List Str).length F_quiet_lay) :=
  fn_okD T.F_quiet_lay sc_quiet_lay fun cdv A outer s H E hr tk hp => have hr : Room 23 _ := hr; have hu := units80 hr; have sc := sc_quiet_lay;
    fss_cons (fs_if (ft_not (ft_val (fe_call (ok_is_turn T) (hr.mono (by decide)) tk (by rfl) T.m_is_turn T.k_is_turn T.b_is_turn (fa_cons (fe_var 0) fa_nil) (fun ρ ds h => (sCons_len sNil_len) ρ ds h)))) (fss_one (fs_raise (by rfl) tk PySem.F.excBase_ValueError T.x_BadTurn T.m_BadTurn T.k_BadTurn (raises_own T.b_BadTurn T.y_BadTurn) (by rfl))) fss_nil) (
    fss_cons (fs_if (FW.ft (fw_or (ft_not (ft_val (fe_call (ok__are_parts T 20) (hr.mono (by decide)) tk (by rfl) T.m__are_parts T.k__are_parts T.b__are_parts (fa_cons (fe_var 1) (fa_cons (fe_bin op_gSub (fe_gint (by rfl) T.m_MOST_WITHIN) fe_int) fa_nil)) (fun ρ ds h => (sCons_len (sCons_len sNil_len)) ρ ds h)))) (fw_or1 (ft_cmp (op_gGe hu) (fe_cb (cr_bSum (by rfl)) (by rfl) T.n_sum (by first | rfl | decide +kernel) (fa_cons (FN.fe (fn_lc (by rfl) sc.nd (fi_any (fe_var 1)) (blkOk_by (own := [("part", 2)]) (by kernel_rfl)) (by decide) (fun _ _ _ _ _ => fg_one 2 sc.nd (by rfl) (by first | exact Or.inl rfl | exact Or.inr rfl)) (fun _ _ _ _ _ => fts_nil) (fun _ _ _ _ _ => fe_cb cr_bLen (by rfl) T.n_len (by first | rfl | decide +kernel) (fa_cons (fe_call (ok__things T 20) (hr.mono (by decide)) tk0 (by rfl) T.m__things T.k__things T.b__things (fa_cons (fe_var 2) fa_nil) (fun ρ ds h => (sCons_len sNil_len) ρ ds h)) fa_nil)))) fa_nil)) (fe_gint (by rfl) T.m_MOST_THINGS) (by first | exact nomark _ | rfl))))) (fss_one (fs_raise (by rfl) tk PySem.F.excBase_ValueError T.x_BadParts T.m_BadParts T.k_BadParts (raises_own T.b_BadParts T.y_BadParts) (by rfl))) fss_nil) (
    fss_cons (fs_setN sc.nd (fn_lst fa_nil) (hx := (by first | exact Or.inl rfl | exact Or.inr rfl))) (
    fss_cons (fs_for hp (by rfl) (fi_any (fe_var 1)) (fg_one 2 sc.nd (by rfl) (by first | exact Or.inl rfl | exact Or.inr rfl)) (keeps_one 2) (
    fss_one (fs_extend true (fe_call (ok__turns T 20) (hr.mono (by decide)) tk (by rfl) T.m__turns T.k__turns T.b__turns (fa_cons (fe_var 2) (fa_cons (fe_gtup (by rfl) T.m_NOTHING T.g_NOTHING) fa_nil)) (fun ρ ds h => (sCons_len (sCons_len sNil_len)) ρ ds h))))) (
    fss_cons (fs_if (ft_val (fe_cb (cr_bAny (by rfl)) (by rfl) T.n_any (by first | rfl | decide +kernel) (fa_cons (FN.fe (fn_lc (by rfl) sc.nd (fi_any (fe_var 3)) (blkOk_by (own := [("one", 4)]) (by kernel_rfl)) (by decide) (fun _ _ _ _ _ => fg_one 4 sc.nd (by rfl) (by first | exact Or.inl rfl | exact Or.inr rfl)) (fun _ _ _ _ _ => fts_nil) (fun _ _ _ _ _ => fe_cmp (op_gNe hu) (fe_var 4) (fe_ix ix_gIx (fe_var 3) fe_int (fun _ _ => by rfl)) (by first | exact nomark _ | rfl)))) fa_nil))) (fss_one (fs_ret fe_non)) fss_nil) (
    fss_cons (fs_frz 3 (fs_set true sc.nd (fe_ite (ft_cmp (op_gEq hu) (fe_var 0) fe_str (by first | exact nomark _ | rfl)) (fe_ix ix_gIx (fe_var 3) fe_int (fun _ _ => by rfl)) (fe_call (ok_times T) (hr.mono (by decide)) tk (by rfl) T.m_times T.k_times T.b_times (fa_cons (fe_ix ix_gIx (fe_var 3) fe_int (fun _ _ => by rfl)) (fa_cons (fe_tup (fa_cons (fe_un un_gNeg fe_int) (fa_cons fe_int fa_nil))) fa_nil)) (fun ρ ds h => (sCons_len (sCons_len sNil_len)) ρ ds h))) (hx := (by first | exact Or.inl rfl | exact Or.inr rfl)))) (
    fss_cons (fs_if (ft_not (ft_val (fe_call (ok_is_less T) (hr.mono (by decide)) tk (by rfl) T.m_is_less T.k_is_less T.b_is_less (fa_cons (fe_gtup (by rfl) T.m_NOTHING T.g_NOTHING) (fa_cons (fe_var 5) fa_nil)) (fun ρ ds h => (sCons_len (sCons_len sNil_len)) ρ ds h)))) (fss_one (fs_ret fe_non)) fss_nil) (
    fss_cons (fs_set true sc.nd (fe_call (ok_over T) (hr.mono (by decide)) tk (by rfl) T.m_over T.k_over T.b_over (fa_cons (fe_gtup (by rfl) T.m_ONE T.g_ONE) (fa_cons (fe_var 5) fa_nil)) (fun ρ ds h => (sCons_len (sCons_len sNil_len)) ρ ds h)) (hx := (by first | exact Or.inl rfl | exact Or.inr rfl))) (
    fss_one (fs_ret (fe_ite (ft_val (fe_call (ok_is_lay T) (hr.mono (by decide)) tk (by rfl) T.m_is_lay T.k_is_lay T.b_is_lay (fa_cons (fe_var 6) fa_nil) (fun ρ ds h => (sCons_len sNil_len) ρ ds h))) (fe_var 6) fe_non))))))))))
theorem ok_turned (T : Txt K mg) : FnOk P w K mg base (L2.CX P w) 3 T.a_turned T.d_turned (["colours", "steps"] : List Str) (spD K mg (["colours", "steps"] : List Str).length F_turned) :=
  fn_okD T.F_turned sc_turned fun cdv A outer s H E hr tk hp => have hr : Room 2 _ := hr; have hu := units80 hr; have sc := sc_turned;
    fss_cons (fs_drop true (fe_call (ok_check_colours T) (hr.mono (by decide)) tk (by rfl) T.m_check_colours T.k_check_colours T.b_check_colours (fa_cons (fe_var 0) fa_nil) (fun ρ ds h => (sCons_len sNil_len) ρ ds h))) (
    fss_cons (fs_if (ft_not (ft_val (fe_call (ok_is_integer T) (hr.mono (by decide)) tk (by rfl) T.m_is_integer T.k_is_integer T.b_is_integer (fa_cons (fe_var 1) fa_nil) (fun ρ ds h => (sCons_len sNil_len) ρ ds h)))) (fss_one (fs_raise (by rfl) tk PySem.F.excBase_ValueError T.x_BadSteps T.m_BadSteps T.k_BadSteps (raises_own T.b_BadSteps T.y_BadSteps) (by rfl))) fss_nil) (
    fss_one (fs_ret (fe_call (ok__turned T) (hr.mono (by decide)) tk (by rfl) T.m__turned T.k__turned T.b__turned (fa_cons (fe_var 0) (fa_cons (fe_var 1) fa_nil)) (fun ρ ds h => (sCons_len (sCons_len sNil_len)) ρ ds h)))))
theorem ok_law (T : Txt K mg) : FnOk P w K mg base (L2.CX P w) 27 T.a_law T.d_law (["script"] : List Str) (spR K mg (["script"] : List Str).length F_law) :=
  fn_okR T.F_law sc_law fun cdv A outer s H E hr tk hp => have hr : Room 26 _ := hr; have hu := units80 hr; have sc := sc_law;
    fss_cons (fs_set true sc.nd (fe_callR 0 (ok__law_draws T) (hr.mono (by decide)) tk (by rfl) T.m__law_draws T.k__law_draws T.b__law_draws (fa_cons fe_int fa_nil) (fun ρ ds h => congrArg (· + 1) ((sCons_len sNil_len) ρ ds h))) (hx := (by first | exact Or.inl rfl | exact Or.inr rfl))) (
    fss_cons (fs_set true sc.nd (fe_bin op_gAdd fe_int (fe_bin op_gMod (fe_cty cr_bInt (by rfl) T.n_int (by first | rfl | decide +kernel) (fa_cons (fe_ix ix_gIx (fe_var 1) fe_int (fun _ _ => by rfl)) fa_nil)) fe_int)) (hx := (by first | exact Or.inl rfl | exact Or.inr rfl))) (
    fss_cons (fs_for hp (by rfl) (fi_range2 (by rfl) T.n_range (fa_cons fe_int (fa_cons fe_int fa_nil))) (fg_one 3 sc.nd (by rfl) (by first | exact Or.inl rfl | exact Or.inr rfl)) (keeps_one 3) (
    fss_cons (fs_set true sc.nd (fe_bin op_gAdd fe_int (fe_bin op_gMulT (fe_cty cr_bInt (by rfl) T.n_int (by first | rfl | decide +kernel) (fa_cons (fe_cmp (op_gLt hu) (fe_var 3) fe_int (by first | exact nomark _ | rfl)) fa_nil)) (fe_bin op_gMod (fe_cty cr_bInt (by rfl) T.n_int (by first | rfl | decide +kernel) (fa_cons (fe_ix ix_gIx (fe_var 1) (fe_var 3) (fun _ _ => by rfl)) fa_nil)) fe_int))) (hx := (by first | exact Or.inl rfl | exact Or.inr rfl))) (
    fss_cons (fs_set true sc.nd (fe_tup (fa_cons fe_str (fa_cons fe_str fa_nil))) (hx := (by first | exact Or.inl rfl | exact Or.inr rfl))) (
    fss_cons (fs_for hp (by rfl) (fi_range1 (by rfl) T.n_range (fa_cons (fe_var 3) fa_nil)) (fg_one 6 sc.nd (by rfl) (by first | exact Or.inl rfl | exact Or.inr rfl)) (keeps_one 6) (
    fss_one (fs_set true sc.nd (fe_tup (fa_cons (fe_ix ix_gIx (FN.fe (fn_lst (fa_cons fe_str (fa_cons fe_str fa_nil)))) (fe_bin op_gMod (fe_cty cr_bInt (by rfl) T.n_int (by first | rfl | decide +kernel) (fa_cons (fe_var 6) fa_nil)) fe_int) (fun _ _ => by rfl)) (fa_cons (fe_tup (fa_cons (fe_var 2) (fa_cons fe_int fa_nil))) (fa_cons (fe_bin op_gMulT (fe_tup (fa_cons (fe_var 5) fa_nil)) (fe_var 4)) fa_nil)))) (hx := (by first | exact Or.inl rfl | exact Or.inr rfl))))) (
    fss_cons (fs_set true sc.nd (fe_call (ok__law_power T) (hr.mono (by decide)) tk (by rfl) T.m__law_power T.k__law_power T.b__law_power (fa_cons (fe_var 4) (fa_cons (fe_var 3) fa_nil)) (fun ρ ds h => (sCons_len (sCons_len sNil_len)) ρ ds h)) (hx := (by first | exact Or.inl rfl | exact Or.inr rfl))) (
    fss_cons (fs_if (FW.ft (fw_or (ft_cmp (op_gNe hu) (fe_call (ok_yarns_of T) (hr.mono (by decide)) tk (by rfl) T.m_yarns_of T.k_yarns_of T.b_yarns_of (fa_cons (fe_var 5) fa_nil) (fun ρ ds h => (sCons_len sNil_len) ρ ds h)) (fe_bin op_gMulT (fe_tup (fa_cons fe_str fa_nil)) (fe_var 7)) (by first | exact nomark _ | rfl)) (fw_or (ft_not (ft_val (fe_call (ok_is_hard T) (hr.mono (by decide)) tk (by rfl) T.m_is_hard T.k_is_hard T.b_is_hard (fa_cons (fe_var 5) fa_nil) (fun ρ ds h => (sCons_len sNil_len) ρ ds h)))) (fw_or (ft_cmp (op_gNe hu) (fe_call (ok_turns_in T) (hr.mono (by decide)) tk (by rfl) T.m_turns_in T.k_turns_in T.b_turns_in (fa_cons (fe_var 5) (fa_cons (fe_var 2) fa_nil)) (fun ρ ds h => (sCons_len (sCons_len sNil_len)) ρ ds h)) (fe_bin op_gMulT (fe_tup (fa_cons (fe_tup (fa_cons (fe_ite (ft_cmp (op_gEq hu) (fe_bin op_gMod (fe_cty cr_bInt (by rfl) T.n_int (by first | rfl | decide +kernel) (fa_cons (fe_var 3) fa_nil)) fe_int) fe_int (by first | exact nomark _ | rfl)) (fe_un un_gNeg fe_int) fe_int) (fa_cons fe_int fa_nil))) fa_nil)) (fe_var 7)) (by first | exact nomark _ | rfl)) (fw_or1 (ft_cmp (op_gNe hu) (fe_call (ok_is_quiet T) (hr.mono (by decide)) tk (by rfl) T.m_is_quiet T.k_is_quiet T.b_is_quiet (fa_cons (fe_var 5) fa_nil) (fun ρ ds h => (sCons_len sNil_len) ρ ds h)) (fe_cmp (op_gEq hu) (fe_bin op_gMod (fe_cty cr_bInt (by rfl) T.n_int (by first | rfl | decide +kernel) (fa_cons (fe_var 3) fa_nil)) fe_int) fe_int (by first | exact nomark _ | rfl)) (by first | exact nomark _ | rfl))))))) (fss_one (fs_ret fe_bl)) fss_nil) (
    fss_cons (fs_if (FW.ft (fw_or (ft_cmp (op_gNe hu) (fe_ix ix_gIx (fe_ix ix_gIx (fe_call (ok_needed T) (hr.mono (by decide)) tk (by rfl) T.m_needed T.k_needed T.b_needed (fa_cons (fe_var 5) (fa_cons (fe_tup (fa_cons fe_int (fa_cons fe_int fa_nil))) (fa_cons fe_int fa_nil))) (fun ρ ds h => (sCons_len (sCons_len (sCons_len sNil_len))) ρ ds h)) fe_int (fun _ _ => by rfl)) fe_int (fun _ _ => by rfl)) (fe_call (ok__law_low T) (hr.mono (by decide)) tk (by rfl) T.m__law_low T.k__law_low T.b__law_low (fa_cons (fe_bin op_gMulT (fe_bin op_gMulT fe_int (fe_var 7)) (fe_call (ok__law_power T) (hr.mono (by decide)) tk (by rfl) T.m__law_power T.k__law_power T.b__law_power (fa_cons fe_int (fa_cons (fe_var 3) fa_nil)) (fun ρ ds h => (sCons_len (sCons_len sNil_len)) ρ ds h))) (fa_cons (fe_call (ok__law_power T) (hr.mono (by decide)) tk (by rfl) T.m__law_power T.k__law_power T.b__law_power (fa_cons fe_int (fa_cons (fe_var 3) fa_nil)) (fun ρ ds h => (sCons_len (sCons_len sNil_len)) ρ ds h)) fa_nil)) (fun ρ ds h => (sCons_len (sCons_len sNil_len)) ρ ds h)) (by first | exact nomark _ | rfl)) (fw_or1 (ft_cmp (op_gNe hu) (fe_call (ok_needed T) (hr.mono (by decide)) tk (by rfl) T.m_needed T.k_needed T.b_needed (fa_cons (fe_var 5) (fa_cons (fe_tup (fa_cons fe_int (fa_cons fe_int fa_nil))) (fa_cons fe_int fa_nil))) (fun ρ ds h => (sCons_len (sCons_len (sCons_len sNil_len))) ρ ds h)) (fe_tup (fa_cons (fe_tup (fa_cons fe_str (fa_cons (fe_tup (fa_cons (fe_bin op_gMulT fe_int (fe_var 7)) (fa_cons fe_int fa_nil))) fa_nil))) fa_nil)) (by first | exact nomark _ | rfl))))) (fss_one (fs_ret fe_bl)) fss_nil) (
    fss_cons (fs_if (FW.ft (fw_or (ft_cmp (op_gNe hu) (fe_call (ok_longest T) (hr.mono (by decide)) tk (by rfl) T.m_longest T.k_longest T.b_longest (fa_cons (fe_var 5) (fa_cons (fe_tup (fa_cons fe_int (fa_cons fe_int fa_nil))) (fa_cons (fe_tup (fa_cons (fe_tup (fa_cons fe_str (fa_cons fe_int fa_nil))) fa_nil)) fa_nil))) (fun ρ ds h => (sCons_len (sCons_len (sCons_len sNil_len))) ρ ds h)) (fe_call (ok__law_low T) (hr.mono (by decide)) tk (by rfl) T.m__law_low T.k__law_low T.b__law_low (fa_cons fe_int (fa_cons (fe_bin op_gMulT (fe_var 7) (fe_call (ok__law_power T) (hr.mono (by decide)) tk (by rfl) T.m__law_power T.k__law_power T.b__law_power (fa_cons fe_int (fa_cons (fe_var 3) fa_nil)) (fun ρ ds h => (sCons_len (sCons_len sNil_len)) ρ ds h))) fa_nil)) (fun ρ ds h => (sCons_len (sCons_len sNil_len)) ρ ds h)) (by first | exact nomark _ | rfl)) (fw_or1 (ft_cmp (op_gNe hu) (fe_call (ok_turns_in T) (hr.mono (by decide)) tk (by rfl) T.m_turns_in T.k_turns_in T.b_turns_in (fa_cons (fe_call (ok_turned_over T) (hr.mono (by decide)) tk (by rfl) T.m_turned_over T.k_turned_over T.b_turned_over (fa_cons (fe_var 5) fa_nil) (fun ρ ds h => (sCons_len sNil_len) ρ ds h)) (fa_cons (fe_bin op_gMulT fe_int (fe_var 2)) fa_nil)) (fun ρ ds h => (sCons_len (sCons_len sNil_len)) ρ ds h)) (fe_bin op_gMulT (fe_tup (fa_cons (fe_tup (fa_cons (fe_ite (ft_cmp (op_gEq hu) (fe_bin op_gMod (fe_cty cr_bInt (by rfl) T.n_int (by first | rfl | decide +kernel) (fa_cons (fe_var 3) fa_nil)) fe_int) fe_int (by first | exact nomark _ | rfl)) fe_int fe_int) (fa_cons fe_int fa_nil))) fa_nil)) (fe_var 7)) (by first | exact nomark _ | rfl))))) (fss_one (fs_ret fe_bl)) fss_nil) (
    fss_one (fs_if (FW.ft (fw_or (FW.ft (fw_and (ft_cmp (op_gEq hu) (fe_bin op_gMod (fe_cty cr_bInt (by rfl) T.n_int (by first | rfl | decide +kernel) (fa_cons (fe_var 3) fa_nil)) fe_int) fe_int (by first | exact nomark _ | rfl)) (fw_and1 (ft_cmp (op_gNe hu) (fe_call (ok_quiet_lay T) (hr.mono (by decide)) tk (by rfl) T.m_quiet_lay T.k_quiet_lay T.b_quiet_lay (fa_cons fe_str (fa_cons (fe_tup (fa_cons (fe_var 5) (fa_cons (fe_var 5) fa_nil))) fa_nil)) (fun ρ ds h => (sCons_len (sCons_len sNil_len)) ρ ds h)) (fe_tup (fa_cons (fe_var 2) (fa_cons fe_int fa_nil))) (by first | exact nomark _ | rfl))))) (fw_or1 (FW.ft (fw_and (ft_cmp (op_gEq hu) (fe_var 3) fe_int (by first | exact nomark _ | rfl)) (fw_and1 (ft_cmp op_gIsNot (fe_call (ok_quiet_lay T) (hr.mono (by decide)) tk (by rfl) T.m_quiet_lay T.k_quiet_lay T.b_quiet_lay (fa_cons fe_str (fa_cons (fe_tup (fa_cons (fe_var 5) (fa_cons (fe_var 5) fa_nil))) fa_nil)) (fun ρ ds h => (sCons_len (sCons_len sNil_len)) ρ ds h)) fe_non (by first | exact nomark _ | rfl)))))))) (fss_one (fs_ret fe_bl)) fss_nil)))))))))) (
    fss_cons (fs_for hp (by rfl) (fi_range2 (by rfl) T.n_range (fa_cons fe_int (fa_cons fe_int fa_nil))) (fg_one 4 sc.nd (by rfl) (by first | exact Or.inl rfl | exact Or.inr rfl)) (keeps_one 4) (
    fss_cons (fs_par true (by rfl) sc.nd (fa_cons (fe_bin op_gMulT (fe_tup (fa_cons fe_str fa_nil)) (fe_var 4)) (fa_cons (fe_cty cr_bTuple (by rfl) T.n_tuple (by first | rfl | decide +kernel) (fa_cons (FN.fe (fn_lc (by rfl) sc.nd (fi_range1 (by rfl) T.n_range (fa_cons (fe_var 4) fa_nil)) (blkOk_by (own := [("k", 6)]) (by kernel_rfl)) (by decide) (fun _ _ _ _ _ => fg_one 6 sc.nd (by rfl) (by first | exact Or.inl rfl | exact Or.inr rfl)) (fun _ _ _ _ _ => fts_nil) (fun _ _ _ _ _ => fe_ix ix_gIx (FN.fe (fn_lst (fa_cons fe_str (fa_cons fe_str (fa_cons fe_str (fa_cons fe_str (fa_cons fe_str (fa_cons fe_str (fa_cons fe_str (fa_cons fe_str (fa_cons fe_str (fa_cons fe_str (fa_cons fe_str (fa_cons fe_str fa_nil)))))))))))))) (fe_var 6) (fun _ _ => by rfl)))) fa_nil)) fa_nil)) (by decide)) (
    fss_cons (fs_if (FW.ft (fw_or (ft_cmp (op_gNe hu) (fe_call (ok_least_steps T) (hr.mono (by decide)) tk (by rfl) T.m_least_steps T.k_least_steps T.b_least_steps (fa_cons (fe_var 8) fa_nil) (fun ρ ds h => (sCons_len sNil_len) ρ ds h)) fe_int (by first | exact nomark _ | rfl)) (fw_or (ft_cmp (op_gNe hu) (fe_call (ok_comes_again T) (hr.mono (by decide)) tk (by rfl) T.m_comes_again T.k_comes_again T.b_comes_again (fa_cons (fe_var 8) (fa_cons (fe_tup (fa_cons (fe_var 2) (fa_cons fe_int fa_nil))) fa_nil)) (fun ρ ds h => (sCons_len (sCons_len sNil_len)) ρ ds h)) (fe_call (ok__law_low T) (hr.mono (by decide)) tk (by rfl) T.m__law_low T.k__law_low T.b__law_low (fa_cons (fe_var 2) (fa_cons (fe_var 4) fa_nil)) (fun ρ ds h => (sCons_len (sCons_len sNil_len)) ρ ds h)) (by first | exact nomark _ | rfl)) (fw_or (ft_cmp (op_gNe hu) (fe_call (ok_least_steps T) (hr.mono (by decide)) tk (by rfl) T.m_least_steps T.k_least_steps T.b_least_steps (fa_cons (fe_var 9) fa_nil) (fun ρ ds h => (sCons_len sNil_len) ρ ds h)) (fe_var 4) (by first | exact nomark _ | rfl)) (fw_or1 (ft_cmp (op_gNe hu) (fe_call (ok_comes_again T) (hr.mono (by decide)) tk (by rfl) T.m_comes_again T.k_comes_again T.b_comes_again (fa_cons (fe_var 9) (fa_cons (fe_tup (fa_cons (fe_var 2) (fa_cons fe_int fa_nil))) fa_nil)) (fun ρ ds h => (sCons_len (sCons_len sNil_len)) ρ ds h)) (fe_tup (fa_cons (fe_var 2) (fa_cons fe_int fa_nil))) (by first | exact nomark _ | rfl))))))) (fss_one (fs_ret fe_bl)) fss_nil) (
    fss_cons (fs_if (FW.ft (fw_or (ft_cmp (op_gNe hu) (fe_call (ok_both_again T) (hr.mono (by decide)) tk (by rfl) T.m_both_again T.k_both_again T.b_both_again (fa_cons (fe_var 9) (fa_cons (fe_tup (fa_cons (fe_var 2) (fa_cons fe_int fa_nil))) (fa_cons (fe_var 9) (fa_cons (fe_tup (fa_cons (fe_var 2) (fa_cons fe_int fa_nil))) fa_nil)))) (fun ρ ds h => (sCons_len (sCons_len (sCons_len (sCons_len sNil_len)))) ρ ds h)) (fe_tup (fa_cons (fe_var 2) (fa_cons fe_int fa_nil))) (by first | exact nomark _ | rfl)) (fw_or (ft_cmp (op_gNe hu) (fe_call (ok_both_again T) (hr.mono (by decide)) tk (by rfl) T.m_both_again T.k_both_again T.b_both_again (fa_cons (fe_var 9) (fa_cons (fe_tup (fa_cons fe_int (fa_cons fe_int fa_nil))) (fa_cons (fe_var 9) (fa_cons (fe_tup (fa_cons fe_int (fa_cons fe_int fa_nil))) fa_nil)))) (fun ρ ds h => (sCons_len (sCons_len (sCons_len (sCons_len sNil_len)))) ρ ds h)) (fe_tup (fa_cons fe_int (fa_cons fe_int fa_nil))) (by first | exact nomark _ | rfl)) (fw_or1 (ft_cmp (op_gNe hu) (fe_call (ok_is_even_handed T) (hr.mono (by decide)) tk (by rfl) T.m_is_even_handed T.k_is_even_handed T.b_is_even_handed (fa_cons (fe_var 9) fa_nil) (fun ρ ds h => (sCons_len sNil_len) ρ ds h)) (fe_cmp (op_gLt hu) (fe_var 4) fe_int (by first | exact nomark _ | rfl)) (by first | exact nomark _ | rfl)))))) (fss_one (fs_ret fe_bl)) fss_nil) (
    fss_cons (fs_set true sc.nd (fe_bin op_gMod (fe_cty cr_bInt (by rfl) T.n_int (by first | rfl | decide +kernel) (fa_cons (fe_ix ix_gIx (fe_var 1) (fe_var 4) (fun _ _ => by rfl)) fa_nil)) (fe_var 4)) (hx := (by first | exact Or.inl rfl | exact Or.inr rfl))) (
    fss_cons (fs_if (FW.ft (fw_or (ft_cmp (op_gNe hu) (fe_call (ok_least_turned T) (hr.mono (by decide)) tk (by rfl) T.m_least_turned T.k_least_turned T.b_least_turned (fa_cons (fe_call (ok_turned T) (hr.mono (by decide)) tk (by rfl) T.m_turned T.k_turned T.b_turned (fa_cons (fe_var 9) (fa_cons (fe_var 10) fa_nil)) (fun ρ ds h => (sCons_len (sCons_len sNil_len)) ρ ds h)) fa_nil) (fun ρ ds h => (sCons_len sNil_len) ρ ds h)) (fe_var 9) (by first | exact nomark _ | rfl)) (fw_or (ft_not (ft_val (fe_call (ok_same_rope T) (hr.mono (by decide)) tk (by rfl) T.m_same_rope T.k_same_rope T.b_same_rope (fa_cons (fe_call (ok_turned T) (hr.mono (by decide)) tk (by rfl) T.m_turned T.k_turned T.b_turned (fa_cons (fe_var 9) (fa_cons (fe_var 10) fa_nil)) (fun ρ ds h => (sCons_len (sCons_len sNil_len)) ρ ds h)) (fa_cons (fe_var 9) fa_nil)) (fun ρ ds h => (sCons_len (sCons_len sNil_len)) ρ ds h)))) (fw_or1 (ft_not (ft_val (fe_call (ok_is_even_handed T) (hr.mono (by decide)) tk (by rfl) T.m_is_even_handed T.k_is_even_handed T.b_is_even_handed (fa_cons (fe_var 8) fa_nil) (fun ρ ds h => (sCons_len sNil_len) ρ ds h)))))))) (fss_one (fs_ret fe_bl)) fss_nil) (
    fss_cons (fs_if (FW.ft (fw_or (ft_cmp (op_gNe hu) (fe_call (ok_count_ropes T) (hr.mono (by decide)) tk (by rfl) T.m_count_ropes T.k_count_ropes T.b_count_ropes (fa_cons (fe_var 4) (fa_cons fe_int fa_nil)) (fun ρ ds h => (sCons_len (sCons_len sNil_len)) ρ ds h)) fe_int (by first | exact nomark _ | rfl)) (fw_or (ft_cmp (op_gNe hu) (fe_call (ok_count_ropes T) (hr.mono (by decide)) tk (by rfl) T.m_count_ropes T.k_count_ropes T.b_count_ropes (fa_cons fe_int (fa_cons (fe_ite (ft_cmp (op_gLt hu) (fe_var 4) fe_int (by first | exact nomark _ | rfl)) (fe_bin op_gAdd fe_int (fe_bin op_gFdiv (fe_var 4) fe_int)) fe_int) fa_nil)) (fun ρ ds h => (sCons_len (sCons_len sNil_len)) ρ ds h)) (fe_ite (ft_cmp (op_gLt hu) (fe_var 4) fe_int (by first | exact nomark _ | rfl)) (fe_bin op_gAdd fe_int (fe_bin op_gFdiv (fe_var 4) fe_int)) fe_int) (by first | exact nomark _ | rfl)) (fw_or1 (ft_cmp (op_gNe hu) (fe_call (ok_count_with T) (hr.mono (by decide)) tk (by rfl) T.m_count_with T.k_count_with T.b_count_with (fa_cons (fe_tup (fa_cons (fe_var 4) fa_nil)) fa_nil) (fun ρ ds h => (sCons_len sNil_len) ρ ds h)) fe_int (by first | exact nomark _ | rfl)))))) (fss_one (fs_ret fe_bl)) fss_nil) (
    fss_cons (fs_if (FW.ft (fw_and (ft_cmp (op_gGt hu) (fe_var 4) fe_int (by first | exact nomark _ | rfl)) (fw_and1 (FW.ft (fw_or (ft_cmp (op_gNe hu) (fe_call (ok_count_with T) (hr.mono (by decide)) tk (by rfl) T.m_count_with T.k_count_with T.b_count_with (fa_cons (fe_tup (fa_cons fe_int (fa_cons (fe_bin op_gSub (fe_var 4) fe_int) fa_nil))) fa_nil) (fun ρ ds h => (sCons_len sNil_len) ρ ds h)) fe_int (by first | exact nomark _ | rfl)) (fw_or1 (FW.ft (fw_and (ft_cmp (op_gGt hu) (fe_var 4) fe_int (by first | exact nomark _ | rfl)) (fw_and1 (ft_cmp (op_gNe hu) (fe_call (ok_count_with T) (hr.mono (by decide)) tk (by rfl) T.m_count_with T.k_count_with T.b_count_with (fa_cons (fe_tup (fa_cons fe_int (fa_cons (fe_bin op_gSub (fe_var 4) fe_int) fa_nil))) fa_nil) (fun ρ ds h => (sCons_len sNil_len) ρ ds h)) (fe_bin op_gFdiv (fe_var 4) fe_int) (by first | exact nomark _ | rfl))))))))))) (fss_one (fs_ret fe_bl)) fss_nil) (
    fss_one (fs_if (ft_cmp (op_gIn hu) (fe_var 4) (fe_tup (fa_cons fe_int (fa_cons fe_int (fa_cons fe_int (fa_cons fe_int (fa_cons fe_int fa_nil)))))) (by first | exact nomark _ | rfl)) (fss_one (fs_for hp (by rfl) (fi_range2 (by rfl) T.n_range (fa_cons fe_int (fa_cons fe_int fa_nil))) (fg_one 11 sc.nd (by rfl) (by first | exact Or.inl rfl | exact Or.inr rfl)) (keeps_one 11) (
    fss_one (fs_if (ft_cmp (op_gNe hu) (fe_call (ok_count_ropes T) (hr.mono (by decide)) tk (by rfl) T.m_count_ropes T.k_count_ropes T.b_count_ropes (fa_cons (fe_var 4) (fa_cons (fe_var 11) fa_nil)) (fun ρ ds h => (sCons_len (sCons_len sNil_len)) ρ ds h)) (fe_bin op_gAdd (fe_bin op_gFdiv (fe_bin op_gSub (fe_call (ok__law_power T) (hr.mono (by decide)) tk (by rfl) T.m__law_power T.k__law_power T.b__law_power (fa_cons (fe_var 11) (fa_cons (fe_var 4) fa_nil)) (fun ρ ds h => (sCons_len (sCons_len sNil_len)) ρ ds h)) (fe_var 11)) (fe_var 4)) (fe_var 11)) (by first | exact nomark _ | rfl)) (fss_one (fs_ret fe_bl)) fss_nil)))) fss_nil)))))))))) (
    fss_one (fs_ret (fe_and (fe_cmp (op_gEq hu) (fe_call (ok_ropes_with T) (hr.mono (by decide)) tk (by rfl) T.m_ropes_with T.k_ropes_with T.b_ropes_with (fa_cons (fe_tup (fa_cons fe_int fa_nil)) fa_nil) (fun ρ ds h => (sCons_len sNil_len) ρ ds h)) (fe_tup (fa_cons (fe_bin op_gMulT (fe_tup (fa_cons fe_str fa_nil)) fe_int) fa_nil)) (by first | exact nomark _ | rfl)) (fe_and (fe_cmp (op_gEq hu) (fe_cb cr_bLen (by rfl) T.n_len (by first | rfl | decide +kernel) (fa_cons (fe_call (ok_ropes_with T) (hr.mono (by decide)) tk (by rfl) T.m_ropes_with T.k_ropes_with T.b_ropes_with (fa_cons (fe_tup (fa_cons fe_int (fa_cons fe_int fa_nil))) fa_nil) (fun ρ ds h => (sCons_len sNil_len) ρ ds h)) fa_nil)) fe_int (by first | exact nomark _ | rfl)) (fe_one (fe_cmp (op_gEq hu) (fe_call (ok_count_ropes T) (hr.mono (by decide)) tk (by rfl) T.m_count_ropes T.k_count_ropes T.b_count_ropes (fa_cons fe_int (fa_cons fe_int fa_nil)) (fun ρ ds h => (sCons_len (sCons_len sNil_len)) ρ ds h)) fe_int (by first | exact nomark _ | rfl))))))))))
end
def okP (ps : List Nat) : O → Option PL.Env
  | .nx ρ => if ρ.length = 12 then some (ps.map fun j => ρ.getD j .no) else none
  | _ => none
theorem okP_of {ps : List Nat} {o : O} {pre : PL.Env} (h : okP ps o = some pre) : ∃ ρ, o = .nx ρ ∧ ρ.length = 12 ∧ ps.map (fun j => ρ.getD j .no) = pre := by
  cases o with
  | nx ρ =>
    have h : (if ρ.length = 12 then some (ps.map fun j => ρ.getD j .no) else none) = some pre := h
    by_cases hl : ρ.length = 12
    · rw [if_pos hl] at h; exact ⟨ρ, rfl, hl, Option.some.inj h⟩
    · rw [if_neg hl] at h; cases h
  | _ => cases h
theorem seq_assoc (f g h : PL.Env → O) : sSeq (sSeq f g) h = sSeq f (sSeq g h) := by
  funext ρ
  unfold sSeq
  cases f ρ <;> rfl
theorem exp12 {ρ : PL.Env} (h : ρ.length = 12) : ∃ x0 x1 x2 x3 x4 x5 x6 x7 x8 x9 x10 x11, ρ = [x0, x1, x2, x3, x4, x5, x6, x7, x8, x9, x10, x11] := by
  match ρ, h with
  | [x0, x1, x2, x3, x4, x5, x6, x7, x8, x9, x10, x11], _ => exact ⟨_, _, _, _, _, _, _, _, _, _, _, _, rfl⟩
/-- thirty draws, as a function -/
def Ld (d : Int → Int) : List D := (List.range 30).map fun j => .int (d (j : Nat))
theorem Ld_of (ds : List Int) (h : ds.length = 30) : ds.map PyData.int = Ld fun j => ds.getD j.toNat 0 := by
  apply List.ext_getElem?
  intro i
  unfold Ld
  by_cases hi : i < 30
  · simp [hi, List.getElem?_eq_getElem (show i < ds.length by omega)]
  · simp [hi, List.getElem?_eq_none (show ds.length ≤ i by omega)]
abbrev gA : PL.Env → O := sSeq g_law_2_1 (sSeq g_law_2_2 (sSeq g_law_2_3 (sSeq g_law_2_4 (sSeq g_law_2_5 (sSeq g_law_2_6 g_law_2_7)))))
abbrev gB : PL.Env → O := sSeq g_law_3_0 (sSeq g_law_3_1 g_law_3_2)
abbrev gC : PL.Env → O := sSeq g_law_3_5 (sSeq g_law_3_6 g_law_3_7)
abbrev gT : PL.Env → O := sSeq g_law_3_0 (sSeq g_law_3_1 (sSeq g_law_3_2 (sSeq g_law_3_3 (sSeq g_law_3_4 gC))))
theorem gT_eq : gT = sSeq gB (sSeq g_law_3_3 (sSeq g_law_3_4 gC)) := by
  unfold gT gB
  rw [seq_assoc, seq_assoc]
section
variable (x0 x1 x2 x3 x4 x5 x6 x7 x8 x9 x10 x11 : Sl) (d : Int → Int)
theorem q1 : g_law_2_0 [x0, .val (.list (Ld d)), x2, .val (.int 1), x4, x5, x6, x7, x8, x9, x10, x11] = .nx [x0, .val (.list (Ld d)), x2, .val (.int 1), .val (.int (2 + 1 * (d 1 % 2))), x5, x6, x7, x8, x9, x10, x11] := by kernel_rfl
theorem A1_2_1 : okP [0, 1, 2] (gA [x0, x1, .val (.int 1), .val (.int 1), .val (.int 2), x5, x6, x7, x8, x9, x10, x11]) = some [x0, x1, .val (.int 1)] := by kernel_rfl
theorem A1_2_2 : okP [0, 1, 2] (gA [x0, x1, .val (.int 2), .val (.int 1), .val (.int 2), x5, x6, x7, x8, x9, x10, x11]) = some [x0, x1, .val (.int 2)] := by kernel_rfl
theorem A1_2_3 : okP [0, 1, 2] (gA [x0, x1, .val (.int 3), .val (.int 1), .val (.int 2), x5, x6, x7, x8, x9, x10, x11]) = some [x0, x1, .val (.int 3)] := by kernel_rfl
theorem A1_2_4 : okP [0, 1, 2] (gA [x0, x1, .val (.int 4), .val (.int 1), .val (.int 2), x5, x6, x7, x8, x9, x10, x11]) = some [x0, x1, .val (.int 4)] := by kernel_rfl
theorem A1_2_5 : okP [0, 1, 2] (gA [x0, x1, .val (.int 5), .val (.int 1), .val (.int 2), x5, x6, x7, x8, x9, x10, x11]) = some [x0, x1, .val (.int 5)] := by kernel_rfl
theorem A1_2_6 : okP [0, 1, 2] (gA [x0, x1, .val (.int 6), .val (.int 1), .val (.int 2), x5, x6, x7, x8, x9, x10, x11]) = some [x0, x1, .val (.int 6)] := by kernel_rfl
theorem A1_2_7 : okP [0, 1, 2] (gA [x0, x1, .val (.int 7), .val (.int 1), .val (.int 2), x5, x6, x7, x8, x9, x10, x11]) = some [x0, x1, .val (.int 7)] := by kernel_rfl
theorem A1_2_8 : okP [0, 1, 2] (gA [x0, x1, .val (.int 8), .val (.int 1), .val (.int 2), x5, x6, x7, x8, x9, x10, x11]) = some [x0, x1, .val (.int 8)] := by kernel_rfl
theorem A1_2_9 : okP [0, 1, 2] (gA [x0, x1, .val (.int 9), .val (.int 1), .val (.int 2), x5, x6, x7, x8, x9, x10, x11]) = some [x0, x1, .val (.int 9)] := by kernel_rfl
theorem A1_2_10 : okP [0, 1, 2] (gA [x0, x1, .val (.int 10), .val (.int 1), .val (.int 2), x5, x6, x7, x8, x9, x10, x11]) = some [x0, x1, .val (.int 10)] := by kernel_rfl
theorem A1_2_11 : okP [0, 1, 2] (gA [x0, x1, .val (.int 11), .val (.int 1), .val (.int 2), x5, x6, x7, x8, x9, x10, x11]) = some [x0, x1, .val (.int 11)] := by kernel_rfl
theorem A1_2_12 : okP [0, 1, 2] (gA [x0, x1, .val (.int 12), .val (.int 1), .val (.int 2), x5, x6, x7, x8, x9, x10, x11]) = some [x0, x1, .val (.int 12)] := by kernel_rfl
theorem A1_2_13 : okP [0, 1, 2] (gA [x0, x1, .val (.int 13), .val (.int 1), .val (.int 2), x5, x6, x7, x8, x9, x10, x11]) = some [x0, x1, .val (.int 13)] := by kernel_rfl
theorem A1_2_14 : okP [0, 1, 2] (gA [x0, x1, .val (.int 14), .val (.int 1), .val (.int 2), x5, x6, x7, x8, x9, x10, x11]) = some [x0, x1, .val (.int 14)] := by kernel_rfl
theorem A1_2_15 : okP [0, 1, 2] (gA [x0, x1, .val (.int 15), .val (.int 1), .val (.int 2), x5, x6, x7, x8, x9, x10, x11]) = some [x0, x1, .val (.int 15)] := by kernel_rfl
theorem A1_2_16 : okP [0, 1, 2] (gA [x0, x1, .val (.int 16), .val (.int 1), .val (.int 2), x5, x6, x7, x8, x9, x10, x11]) = some [x0, x1, .val (.int 16)] := by kernel_rfl
theorem A1_2_17 : okP [0, 1, 2] (gA [x0, x1, .val (.int 17), .val (.int 1), .val (.int 2), x5, x6, x7, x8, x9, x10, x11]) = some [x0, x1, .val (.int 17)] := by kernel_rfl
theorem A1_2_18 : okP [0, 1, 2] (gA [x0, x1, .val (.int 18), .val (.int 1), .val (.int 2), x5, x6, x7, x8, x9, x10, x11]) = some [x0, x1, .val (.int 18)] := by kernel_rfl
theorem A1_2_19 : okP [0, 1, 2] (gA [x0, x1, .val (.int 19), .val (.int 1), .val (.int 2), x5, x6, x7, x8, x9, x10, x11]) = some [x0, x1, .val (.int 19)] := by kernel_rfl
theorem A1_2_20 : okP [0, 1, 2] (gA [x0, x1, .val (.int 20), .val (.int 1), .val (.int 2), x5, x6, x7, x8, x9, x10, x11]) = some [x0, x1, .val (.int 20)] := by kernel_rfl
theorem A1_2 (l : Int) (h : 1 ≤ l ∧ l ≤ 20) : okP [0, 1, 2] (gA [x0, x1, .val (.int l), .val (.int 1), .val (.int 2), x5, x6, x7, x8, x9, x10, x11]) = some [x0, x1, .val (.int l)] := by
  have c : l = 1 ∨ l = 2 ∨ l = 3 ∨ l = 4 ∨ l = 5 ∨ l = 6 ∨ l = 7 ∨ l = 8 ∨ l = 9 ∨ l = 10 ∨ l = 11 ∨ l = 12 ∨ l = 13 ∨ l = 14 ∨ l = 15 ∨ l = 16 ∨ l = 17 ∨ l = 18 ∨ l = 19 ∨ l = 20 := by omega
  rcases c with rfl | rfl | rfl | rfl | rfl | rfl | rfl | rfl | rfl | rfl | rfl | rfl | rfl | rfl | rfl | rfl | rfl | rfl | rfl | rfl
  · exact A1_2_1 _ _ _ _ _ _ _ _ _
  · exact A1_2_2 _ _ _ _ _ _ _ _ _
  · exact A1_2_3 _ _ _ _ _ _ _ _ _
  · exact A1_2_4 _ _ _ _ _ _ _ _ _
  · exact A1_2_5 _ _ _ _ _ _ _ _ _
  · exact A1_2_6 _ _ _ _ _ _ _ _ _
  · exact A1_2_7 _ _ _ _ _ _ _ _ _
  · exact A1_2_8 _ _ _ _ _ _ _ _ _
  · exact A1_2_9 _ _ _ _ _ _ _ _ _
  · exact A1_2_10 _ _ _ _ _ _ _ _ _
  · exact A1_2_11 _ _ _ _ _ _ _ _ _
  · exact A1_2_12 _ _ _ _ _ _ _ _ _
  · exact A1_2_13 _ _ _ _ _ _ _ _ _
  · exact A1_2_14 _ _ _ _ _ _ _ _ _
  · exact A1_2_15 _ _ _ _ _ _ _ _ _
  · exact A1_2_16 _ _ _ _ _ _ _ _ _
  · exact A1_2_17 _ _ _ _ _ _ _ _ _
  · exact A1_2_18 _ _ _ _ _ _ _ _ _
  · exact A1_2_19 _ _ _ _ _ _ _ _ _
  · exact A1_2_20 _ _ _ _ _ _ _ _ _
theorem A1_3_1 : okP [0, 1, 2] (gA [x0, x1, .val (.int 1), .val (.int 1), .val (.int 3), x5, x6, x7, x8, x9, x10, x11]) = some [x0, x1, .val (.int 1)] := by kernel_rfl
theorem A1_3_2 : okP [0, 1, 2] (gA [x0, x1, .val (.int 2), .val (.int 1), .val (.int 3), x5, x6, x7, x8, x9, x10, x11]) = some [x0, x1, .val (.int 2)] := by kernel_rfl
theorem A1_3_3 : okP [0, 1, 2] (gA [x0, x1, .val (.int 3), .val (.int 1), .val (.int 3), x5, x6, x7, x8, x9, x10, x11]) = some [x0, x1, .val (.int 3)] := by kernel_rfl
theorem A1_3_4 : okP [0, 1, 2] (gA [x0, x1, .val (.int 4), .val (.int 1), .val (.int 3), x5, x6, x7, x8, x9, x10, x11]) = some [x0, x1, .val (.int 4)] := by kernel_rfl
theorem A1_3_5 : okP [0, 1, 2] (gA [x0, x1, .val (.int 5), .val (.int 1), .val (.int 3), x5, x6, x7, x8, x9, x10, x11]) = some [x0, x1, .val (.int 5)] := by kernel_rfl
theorem A1_3_6 : okP [0, 1, 2] (gA [x0, x1, .val (.int 6), .val (.int 1), .val (.int 3), x5, x6, x7, x8, x9, x10, x11]) = some [x0, x1, .val (.int 6)] := by kernel_rfl
theorem A1_3_7 : okP [0, 1, 2] (gA [x0, x1, .val (.int 7), .val (.int 1), .val (.int 3), x5, x6, x7, x8, x9, x10, x11]) = some [x0, x1, .val (.int 7)] := by kernel_rfl
theorem A1_3_8 : okP [0, 1, 2] (gA [x0, x1, .val (.int 8), .val (.int 1), .val (.int 3), x5, x6, x7, x8, x9, x10, x11]) = some [x0, x1, .val (.int 8)] := by kernel_rfl
theorem A1_3_9 : okP [0, 1, 2] (gA [x0, x1, .val (.int 9), .val (.int 1), .val (.int 3), x5, x6, x7, x8, x9, x10, x11]) = some [x0, x1, .val (.int 9)] := by kernel_rfl
theorem A1_3_10 : okP [0, 1, 2] (gA [x0, x1, .val (.int 10), .val (.int 1), .val (.int 3), x5, x6, x7, x8, x9, x10, x11]) = some [x0, x1, .val (.int 10)] := by kernel_rfl
theorem A1_3_11 : okP [0, 1, 2] (gA [x0, x1, .val (.int 11), .val (.int 1), .val (.int 3), x5, x6, x7, x8, x9, x10, x11]) = some [x0, x1, .val (.int 11)] := by kernel_rfl
theorem A1_3_12 : okP [0, 1, 2] (gA [x0, x1, .val (.int 12), .val (.int 1), .val (.int 3), x5, x6, x7, x8, x9, x10, x11]) = some [x0, x1, .val (.int 12)] := by kernel_rfl
theorem A1_3_13 : okP [0, 1, 2] (gA [x0, x1, .val (.int 13), .val (.int 1), .val (.int 3), x5, x6, x7, x8, x9, x10, x11]) = some [x0, x1, .val (.int 13)] := by kernel_rfl
theorem A1_3_14 : okP [0, 1, 2] (gA [x0, x1, .val (.int 14), .val (.int 1), .val (.int 3), x5, x6, x7, x8, x9, x10, x11]) = some [x0, x1, .val (.int 14)] := by kernel_rfl
theorem A1_3_15 : okP [0, 1, 2] (gA [x0, x1, .val (.int 15), .val (.int 1), .val (.int 3), x5, x6, x7, x8, x9, x10, x11]) = some [x0, x1, .val (.int 15)] := by kernel_rfl
theorem A1_3_16 : okP [0, 1, 2] (gA [x0, x1, .val (.int 16), .val (.int 1), .val (.int 3), x5, x6, x7, x8, x9, x10, x11]) = some [x0, x1, .val (.int 16)] := by kernel_rfl
theorem A1_3_17 : okP [0, 1, 2] (gA [x0, x1, .val (.int 17), .val (.int 1), .val (.int 3), x5, x6, x7, x8, x9, x10, x11]) = some [x0, x1, .val (.int 17)] := by kernel_rfl
theorem A1_3_18 : okP [0, 1, 2] (gA [x0, x1, .val (.int 18), .val (.int 1), .val (.int 3), x5, x6, x7, x8, x9, x10, x11]) = some [x0, x1, .val (.int 18)] := by kernel_rfl
theorem A1_3_19 : okP [0, 1, 2] (gA [x0, x1, .val (.int 19), .val (.int 1), .val (.int 3), x5, x6, x7, x8, x9, x10, x11]) = some [x0, x1, .val (.int 19)] := by kernel_rfl
theorem A1_3_20 : okP [0, 1, 2] (gA [x0, x1, .val (.int 20), .val (.int 1), .val (.int 3), x5, x6, x7, x8, x9, x10, x11]) = some [x0, x1, .val (.int 20)] := by kernel_rfl
theorem A1_3 (l : Int) (h : 1 ≤ l ∧ l ≤ 20) : okP [0, 1, 2] (gA [x0, x1, .val (.int l), .val (.int 1), .val (.int 3), x5, x6, x7, x8, x9, x10, x11]) = some [x0, x1, .val (.int l)] := by
  have c : l = 1 ∨ l = 2 ∨ l = 3 ∨ l = 4 ∨ l = 5 ∨ l = 6 ∨ l = 7 ∨ l = 8 ∨ l = 9 ∨ l = 10 ∨ l = 11 ∨ l = 12 ∨ l = 13 ∨ l = 14 ∨ l = 15 ∨ l = 16 ∨ l = 17 ∨ l = 18 ∨ l = 19 ∨ l = 20 := by omega
  rcases c with rfl | rfl | rfl | rfl | rfl | rfl | rfl | rfl | rfl | rfl | rfl | rfl | rfl | rfl | rfl | rfl | rfl | rfl | rfl | rfl
  · exact A1_3_1 _ _ _ _ _ _ _ _ _
  · exact A1_3_2 _ _ _ _ _ _ _ _ _
  · exact A1_3_3 _ _ _ _ _ _ _ _ _
  · exact A1_3_4 _ _ _ _ _ _ _ _ _
  · exact A1_3_5 _ _ _ _ _ _ _ _ _
  · exact A1_3_6 _ _ _ _ _ _ _ _ _
  · exact A1_3_7 _ _ _ _ _ _ _ _ _
  · exact A1_3_8 _ _ _ _ _ _ _ _ _
  · exact A1_3_9 _ _ _ _ _ _ _ _ _
  · exact A1_3_10 _ _ _ _ _ _ _ _ _
  · exact A1_3_11 _ _ _ _ _ _ _ _ _
  · exact A1_3_12 _ _ _ _ _ _ _ _ _
  · exact A1_3_13 _ _ _ _ _ _ _ _ _
  · exact A1_3_14 _ _ _ _ _ _ _ _ _
  · exact A1_3_15 _ _ _ _ _ _ _ _ _
  · exact A1_3_16 _ _ _ _ _ _ _ _ _
  · exact A1_3_17 _ _ _ _ _ _ _ _ _
  · exact A1_3_18 _ _ _ _ _ _ _ _ _
  · exact A1_3_19 _ _ _ _ _ _ _ _ _
  · exact A1_3_20 _ _ _ _ _ _ _ _ _
theorem q2 : g_law_2_0 [x0, .val (.list (Ld d)), x2, .val (.int 2), x4, x5, x6, x7, x8, x9, x10, x11] = .nx [x0, .val (.list (Ld d)), x2, .val (.int 2), .val (.int (2 + 1 * (d 2 % 2))), x5, x6, x7, x8, x9, x10, x11] := by kernel_rfl
theorem A2_2_1 : okP [0, 1, 2] (gA [x0, x1, .val (.int 1), .val (.int 2), .val (.int 2), x5, x6, x7, x8, x9, x10, x11]) = some [x0, x1, .val (.int 1)] := by kernel_rfl
theorem A2_2_2 : okP [0, 1, 2] (gA [x0, x1, .val (.int 2), .val (.int 2), .val (.int 2), x5, x6, x7, x8, x9, x10, x11]) = some [x0, x1, .val (.int 2)] := by kernel_rfl
theorem A2_2_3 : okP [0, 1, 2] (gA [x0, x1, .val (.int 3), .val (.int 2), .val (.int 2), x5, x6, x7, x8, x9, x10, x11]) = some [x0, x1, .val (.int 3)] := by kernel_rfl
theorem A2_2_4 : okP [0, 1, 2] (gA [x0, x1, .val (.int 4), .val (.int 2), .val (.int 2), x5, x6, x7, x8, x9, x10, x11]) = some [x0, x1, .val (.int 4)] := by kernel_rfl
theorem A2_2_5 : okP [0, 1, 2] (gA [x0, x1, .val (.int 5), .val (.int 2), .val (.int 2), x5, x6, x7, x8, x9, x10, x11]) = some [x0, x1, .val (.int 5)] := by kernel_rfl
theorem A2_2_6 : okP [0, 1, 2] (gA [x0, x1, .val (.int 6), .val (.int 2), .val (.int 2), x5, x6, x7, x8, x9, x10, x11]) = some [x0, x1, .val (.int 6)] := by kernel_rfl
theorem A2_2_7 : okP [0, 1, 2] (gA [x0, x1, .val (.int 7), .val (.int 2), .val (.int 2), x5, x6, x7, x8, x9, x10, x11]) = some [x0, x1, .val (.int 7)] := by kernel_rfl
theorem A2_2_8 : okP [0, 1, 2] (gA [x0, x1, .val (.int 8), .val (.int 2), .val (.int 2), x5, x6, x7, x8, x9, x10, x11]) = some [x0, x1, .val (.int 8)] := by kernel_rfl
theorem A2_2_9 : okP [0, 1, 2] (gA [x0, x1, .val (.int 9), .val (.int 2), .val (.int 2), x5, x6, x7, x8, x9, x10, x11]) = some [x0, x1, .val (.int 9)] := by kernel_rfl
theorem A2_2_10 : okP [0, 1, 2] (gA [x0, x1, .val (.int 10), .val (.int 2), .val (.int 2), x5, x6, x7, x8, x9, x10, x11]) = some [x0, x1, .val (.int 10)] := by kernel_rfl
theorem A2_2_11 : okP [0, 1, 2] (gA [x0, x1, .val (.int 11), .val (.int 2), .val (.int 2), x5, x6, x7, x8, x9, x10, x11]) = some [x0, x1, .val (.int 11)] := by kernel_rfl
theorem A2_2_12 : okP [0, 1, 2] (gA [x0, x1, .val (.int 12), .val (.int 2), .val (.int 2), x5, x6, x7, x8, x9, x10, x11]) = some [x0, x1, .val (.int 12)] := by kernel_rfl
theorem A2_2_13 : okP [0, 1, 2] (gA [x0, x1, .val (.int 13), .val (.int 2), .val (.int 2), x5, x6, x7, x8, x9, x10, x11]) = some [x0, x1, .val (.int 13)] := by kernel_rfl
theorem A2_2_14 : okP [0, 1, 2] (gA [x0, x1, .val (.int 14), .val (.int 2), .val (.int 2), x5, x6, x7, x8, x9, x10, x11]) = some [x0, x1, .val (.int 14)] := by kernel_rfl
theorem A2_2_15 : okP [0, 1, 2] (gA [x0, x1, .val (.int 15), .val (.int 2), .val (.int 2), x5, x6, x7, x8, x9, x10, x11]) = some [x0, x1, .val (.int 15)] := by kernel_rfl
theorem A2_2_16 : okP [0, 1, 2] (gA [x0, x1, .val (.int 16), .val (.int 2), .val (.int 2), x5, x6, x7, x8, x9, x10, x11]) = some [x0, x1, .val (.int 16)] := by kernel_rfl
theorem A2_2_17 : okP [0, 1, 2] (gA [x0, x1, .val (.int 17), .val (.int 2), .val (.int 2), x5, x6, x7, x8, x9, x10, x11]) = some [x0, x1, .val (.int 17)] := by kernel_rfl
theorem A2_2_18 : okP [0, 1, 2] (gA [x0, x1, .val (.int 18), .val (.int 2), .val (.int 2), x5, x6, x7, x8, x9, x10, x11]) = some [x0, x1, .val (.int 18)] := by kernel_rfl
theorem A2_2_19 : okP [0, 1, 2] (gA [x0, x1, .val (.int 19), .val (.int 2), .val (.int 2), x5, x6, x7, x8, x9, x10, x11]) = some [x0, x1, .val (.int 19)] := by kernel_rfl
theorem A2_2_20 : okP [0, 1, 2] (gA [x0, x1, .val (.int 20), .val (.int 2), .val (.int 2), x5, x6, x7, x8, x9, x10, x11]) = some [x0, x1, .val (.int 20)] := by kernel_rfl
theorem A2_2 (l : Int) (h : 1 ≤ l ∧ l ≤ 20) : okP [0, 1, 2] (gA [x0, x1, .val (.int l), .val (.int 2), .val (.int 2), x5, x6, x7, x8, x9, x10, x11]) = some [x0, x1, .val (.int l)] := by
  have c : l = 1 ∨ l = 2 ∨ l = 3 ∨ l = 4 ∨ l = 5 ∨ l = 6 ∨ l = 7 ∨ l = 8 ∨ l = 9 ∨ l = 10 ∨ l = 11 ∨ l = 12 ∨ l = 13 ∨ l = 14 ∨ l = 15 ∨ l = 16 ∨ l = 17 ∨ l = 18 ∨ l = 19 ∨ l = 20 := by omega
  rcases c with rfl | rfl | rfl | rfl | rfl | rfl | rfl | rfl | rfl | rfl | rfl | rfl | rfl | rfl | rfl | rfl | rfl | rfl | rfl | rfl
  · exact A2_2_1 _ _ _ _ _ _ _ _ _
  · exact A2_2_2 _ _ _ _ _ _ _ _ _
  · exact A2_2_3 _ _ _ _ _ _ _ _ _
  · exact A2_2_4 _ _ _ _ _ _ _ _ _
  · exact A2_2_5 _ _ _ _ _ _ _ _ _
  · exact A2_2_6 _ _ _ _ _ _ _ _ _
  · exact A2_2_7 _ _ _ _ _ _ _ _ _
  · exact A2_2_8 _ _ _ _ _ _ _ _ _
  · exact A2_2_9 _ _ _ _ _ _ _ _ _
  · exact A2_2_10 _ _ _ _ _ _ _ _ _
  · exact A2_2_11 _ _ _ _ _ _ _ _ _
  · exact A2_2_12 _ _ _ _ _ _ _ _ _
  · exact A2_2_13 _ _ _ _ _ _ _ _ _
  · exact A2_2_14 _ _ _ _ _ _ _ _ _
  · exact A2_2_15 _ _ _ _ _ _ _ _ _
  · exact A2_2_16 _ _ _ _ _ _ _ _ _
  · exact A2_2_17 _ _ _ _ _ _ _ _ _
  · exact A2_2_18 _ _ _ _ _ _ _ _ _
  · exact A2_2_19 _ _ _ _ _ _ _ _ _
  · exact A2_2_20 _ _ _ _ _ _ _ _ _
theorem A2_3_1 : okP [0, 1, 2] (gA [x0, x1, .val (.int 1), .val (.int 2), .val (.int 3), x5, x6, x7, x8, x9, x10, x11]) = some [x0, x1, .val (.int 1)] := by kernel_rfl
theorem A2_3_2 : okP [0, 1, 2] (gA [x0, x1, .val (.int 2), .val (.int 2), .val (.int 3), x5, x6, x7, x8, x9, x10, x11]) = some [x0, x1, .val (.int 2)] := by kernel_rfl
theorem A2_3_3 : okP [0, 1, 2] (gA [x0, x1, .val (.int 3), .val (.int 2), .val (.int 3), x5, x6, x7, x8, x9, x10, x11]) = some [x0, x1, .val (.int 3)] := by kernel_rfl
theorem A2_3_4 : okP [0, 1, 2] (gA [x0, x1, .val (.int 4), .val (.int 2), .val (.int 3), x5, x6, x7, x8, x9, x10, x11]) = some [x0, x1, .val (.int 4)] := by kernel_rfl
theorem A2_3_5 : okP [0, 1, 2] (gA [x0, x1, .val (.int 5), .val (.int 2), .val (.int 3), x5, x6, x7, x8, x9, x10, x11]) = some [x0, x1, .val (.int 5)] := by kernel_rfl
theorem A2_3_6 : okP [0, 1, 2] (gA [x0, x1, .val (.int 6), .val (.int 2), .val (.int 3), x5, x6, x7, x8, x9, x10, x11]) = some [x0, x1, .val (.int 6)] := by kernel_rfl
theorem A2_3_7 : okP [0, 1, 2] (gA [x0, x1, .val (.int 7), .val (.int 2), .val (.int 3), x5, x6, x7, x8, x9, x10, x11]) = some [x0, x1, .val (.int 7)] := by kernel_rfl
theorem A2_3_8 : okP [0, 1, 2] (gA [x0, x1, .val (.int 8), .val (.int 2), .val (.int 3), x5, x6, x7, x8, x9, x10, x11]) = some [x0, x1, .val (.int 8)] := by kernel_rfl
theorem A2_3_9 : okP [0, 1, 2] (gA [x0, x1, .val (.int 9), .val (.int 2), .val (.int 3), x5, x6, x7, x8, x9, x10, x11]) = some [x0, x1, .val (.int 9)] := by kernel_rfl
theorem A2_3_10 : okP [0, 1, 2] (gA [x0, x1, .val (.int 10), .val (.int 2), .val (.int 3), x5, x6, x7, x8, x9, x10, x11]) = some [x0, x1, .val (.int 10)] := by kernel_rfl
theorem A2_3_11 : okP [0, 1, 2] (gA [x0, x1, .val (.int 11), .val (.int 2), .val (.int 3), x5, x6, x7, x8, x9, x10, x11]) = some [x0, x1, .val (.int 11)] := by kernel_rfl
theorem A2_3_12 : okP [0, 1, 2] (gA [x0, x1, .val (.int 12), .val (.int 2), .val (.int 3), x5, x6, x7, x8, x9, x10, x11]) = some [x0, x1, .val (.int 12)] := by kernel_rfl
theorem A2_3_13 : okP [0, 1, 2] (gA [x0, x1, .val (.int 13), .val (.int 2), .val (.int 3), x5, x6, x7, x8, x9, x10, x11]) = some [x0, x1, .val (.int 13)] := by kernel_rfl
theorem A2_3_14 : okP [0, 1, 2] (gA [x0, x1, .val (.int 14), .val (.int 2), .val (.int 3), x5, x6, x7, x8, x9, x10, x11]) = some [x0, x1, .val (.int 14)] := by kernel_rfl
theorem A2_3_15 : okP [0, 1, 2] (gA [x0, x1, .val (.int 15), .val (.int 2), .val (.int 3), x5, x6, x7, x8, x9, x10, x11]) = some [x0, x1, .val (.int 15)] := by kernel_rfl
theorem A2_3_16 : okP [0, 1, 2] (gA [x0, x1, .val (.int 16), .val (.int 2), .val (.int 3), x5, x6, x7, x8, x9, x10, x11]) = some [x0, x1, .val (.int 16)] := by kernel_rfl
theorem A2_3_17 : okP [0, 1, 2] (gA [x0, x1, .val (.int 17), .val (.int 2), .val (.int 3), x5, x6, x7, x8, x9, x10, x11]) = some [x0, x1, .val (.int 17)] := by kernel_rfl
theorem A2_3_18 : okP [0, 1, 2] (gA [x0, x1, .val (.int 18), .val (.int 2), .val (.int 3), x5, x6, x7, x8, x9, x10, x11]) = some [x0, x1, .val (.int 18)] := by kernel_rfl
theorem A2_3_19 : okP [0, 1, 2] (gA [x0, x1, .val (.int 19), .val (.int 2), .val (.int 3), x5, x6, x7, x8, x9, x10, x11]) = some [x0, x1, .val (.int 19)] := by kernel_rfl
theorem A2_3_20 : okP [0, 1, 2] (gA [x0, x1, .val (.int 20), .val (.int 2), .val (.int 3), x5, x6, x7, x8, x9, x10, x11]) = some [x0, x1, .val (.int 20)] := by kernel_rfl
theorem A2_3 (l : Int) (h : 1 ≤ l ∧ l ≤ 20) : okP [0, 1, 2] (gA [x0, x1, .val (.int l), .val (.int 2), .val (.int 3), x5, x6, x7, x8, x9, x10, x11]) = some [x0, x1, .val (.int l)] := by
  have c : l = 1 ∨ l = 2 ∨ l = 3 ∨ l = 4 ∨ l = 5 ∨ l = 6 ∨ l = 7 ∨ l = 8 ∨ l = 9 ∨ l = 10 ∨ l = 11 ∨ l = 12 ∨ l = 13 ∨ l = 14 ∨ l = 15 ∨ l = 16 ∨ l = 17 ∨ l = 18 ∨ l = 19 ∨ l = 20 := by omega
  rcases c with rfl | rfl | rfl | rfl | rfl | rfl | rfl | rfl | rfl | rfl | rfl | rfl | rfl | rfl | rfl | rfl | rfl | rfl | rfl | rfl
  · exact A2_3_1 _ _ _ _ _ _ _ _ _
  · exact A2_3_2 _ _ _ _ _ _ _ _ _
  · exact A2_3_3 _ _ _ _ _ _ _ _ _
  · exact A2_3_4 _ _ _ _ _ _ _ _ _
  · exact A2_3_5 _ _ _ _ _ _ _ _ _
  · exact A2_3_6 _ _ _ _ _ _ _ _ _
  · exact A2_3_7 _ _ _ _ _ _ _ _ _
  · exact A2_3_8 _ _ _ _ _ _ _ _ _
  · exact A2_3_9 _ _ _ _ _ _ _ _ _
  · exact A2_3_10 _ _ _ _ _ _ _ _ _
  · exact A2_3_11 _ _ _ _ _ _ _ _ _
  · exact A2_3_12 _ _ _ _ _ _ _ _ _
  · exact A2_3_13 _ _ _ _ _ _ _ _ _
  · exact A2_3_14 _ _ _ _ _ _ _ _ _
  · exact A2_3_15 _ _ _ _ _ _ _ _ _
  · exact A2_3_16 _ _ _ _ _ _ _ _ _
  · exact A2_3_17 _ _ _ _ _ _ _ _ _
  · exact A2_3_18 _ _ _ _ _ _ _ _ _
  · exact A2_3_19 _ _ _ _ _ _ _ _ _
  · exact A2_3_20 _ _ _ _ _ _ _ _ _
theorem q3 : g_law_2_0 [x0, .val (.list (Ld d)), x2, .val (.int 3), x4, x5, x6, x7, x8, x9, x10, x11] = .nx [x0, .val (.list (Ld d)), x2, .val (.int 3), .val (.int (2 + 0 * (d 3 % 2))), x5, x6, x7, x8, x9, x10, x11] := by kernel_rfl
theorem A3_2_1 : okP [0, 1, 2] (gA [x0, x1, .val (.int 1), .val (.int 3), .val (.int 2), x5, x6, x7, x8, x9, x10, x11]) = some [x0, x1, .val (.int 1)] := by kernel_rfl
theorem A3_2_2 : okP [0, 1, 2] (gA [x0, x1, .val (.int 2), .val (.int 3), .val (.int 2), x5, x6, x7, x8, x9, x10, x11]) = some [x0, x1, .val (.int 2)] := by kernel_rfl
theorem A3_2_3 : okP [0, 1, 2] (gA [x0, x1, .val (.int 3), .val (.int 3), .val (.int 2), x5, x6, x7, x8, x9, x10, x11]) = some [x0, x1, .val (.int 3)] := by kernel_rfl
theorem A3_2_4 : okP [0, 1, 2] (gA [x0, x1, .val (.int 4), .val (.int 3), .val (.int 2), x5, x6, x7, x8, x9, x10, x11]) = some [x0, x1, .val (.int 4)] := by kernel_rfl
theorem A3_2_5 : okP [0, 1, 2] (gA [x0, x1, .val (.int 5), .val (.int 3), .val (.int 2), x5, x6, x7, x8, x9, x10, x11]) = some [x0, x1, .val (.int 5)] := by kernel_rfl
theorem A3_2_6 : okP [0, 1, 2] (gA [x0, x1, .val (.int 6), .val (.int 3), .val (.int 2), x5, x6, x7, x8, x9, x10, x11]) = some [x0, x1, .val (.int 6)] := by kernel_rfl
theorem A3_2_7 : okP [0, 1, 2] (gA [x0, x1, .val (.int 7), .val (.int 3), .val (.int 2), x5, x6, x7, x8, x9, x10, x11]) = some [x0, x1, .val (.int 7)] := by kernel_rfl
theorem A3_2_8 : okP [0, 1, 2] (gA [x0, x1, .val (.int 8), .val (.int 3), .val (.int 2), x5, x6, x7, x8, x9, x10, x11]) = some [x0, x1, .val (.int 8)] := by kernel_rfl
theorem A3_2_9 : okP [0, 1, 2] (gA [x0, x1, .val (.int 9), .val (.int 3), .val (.int 2), x5, x6, x7, x8, x9, x10, x11]) = some [x0, x1, .val (.int 9)] := by kernel_rfl
theorem A3_2_10 : okP [0, 1, 2] (gA [x0, x1, .val (.int 10), .val (.int 3), .val (.int 2), x5, x6, x7, x8, x9, x10, x11]) = some [x0, x1, .val (.int 10)] := by kernel_rfl
theorem A3_2_11 : okP [0, 1, 2] (gA [x0, x1, .val (.int 11), .val (.int 3), .val (.int 2), x5, x6, x7, x8, x9, x10, x11]) = some [x0, x1, .val (.int 11)] := by kernel_rfl
theorem A3_2_12 : okP [0, 1, 2] (gA [x0, x1, .val (.int 12), .val (.int 3), .val (.int 2), x5, x6, x7, x8, x9, x10, x11]) = some [x0, x1, .val (.int 12)] := by kernel_rfl
theorem A3_2_13 : okP [0, 1, 2] (gA [x0, x1, .val (.int 13), .val (.int 3), .val (.int 2), x5, x6, x7, x8, x9, x10, x11]) = some [x0, x1, .val (.int 13)] := by kernel_rfl
theorem A3_2_14 : okP [0, 1, 2] (gA [x0, x1, .val (.int 14), .val (.int 3), .val (.int 2), x5, x6, x7, x8, x9, x10, x11]) = some [x0, x1, .val (.int 14)] := by kernel_rfl
theorem A3_2_15 : okP [0, 1, 2] (gA [x0, x1, .val (.int 15), .val (.int 3), .val (.int 2), x5, x6, x7, x8, x9, x10, x11]) = some [x0, x1, .val (.int 15)] := by kernel_rfl
theorem A3_2_16 : okP [0, 1, 2] (gA [x0, x1, .val (.int 16), .val (.int 3), .val (.int 2), x5, x6, x7, x8, x9, x10, x11]) = some [x0, x1, .val (.int 16)] := by kernel_rfl
theorem A3_2_17 : okP [0, 1, 2] (gA [x0, x1, .val (.int 17), .val (.int 3), .val (.int 2), x5, x6, x7, x8, x9, x10, x11]) = some [x0, x1, .val (.int 17)] := by kernel_rfl
theorem A3_2_18 : okP [0, 1, 2] (gA [x0, x1, .val (.int 18), .val (.int 3), .val (.int 2), x5, x6, x7, x8, x9, x10, x11]) = some [x0, x1, .val (.int 18)] := by kernel_rfl
theorem A3_2_19 : okP [0, 1, 2] (gA [x0, x1, .val (.int 19), .val (.int 3), .val (.int 2), x5, x6, x7, x8, x9, x10, x11]) = some [x0, x1, .val (.int 19)] := by kernel_rfl
theorem A3_2_20 : okP [0, 1, 2] (gA [x0, x1, .val (.int 20), .val (.int 3), .val (.int 2), x5, x6, x7, x8, x9, x10, x11]) = some [x0, x1, .val (.int 20)] := by kernel_rfl
theorem A3_2 (l : Int) (h : 1 ≤ l ∧ l ≤ 20) : okP [0, 1, 2] (gA [x0, x1, .val (.int l), .val (.int 3), .val (.int 2), x5, x6, x7, x8, x9, x10, x11]) = some [x0, x1, .val (.int l)] := by
  have c : l = 1 ∨ l = 2 ∨ l = 3 ∨ l = 4 ∨ l = 5 ∨ l = 6 ∨ l = 7 ∨ l = 8 ∨ l = 9 ∨ l = 10 ∨ l = 11 ∨ l = 12 ∨ l = 13 ∨ l = 14 ∨ l = 15 ∨ l = 16 ∨ l = 17 ∨ l = 18 ∨ l = 19 ∨ l = 20 := by omega
  rcases c with rfl | rfl | rfl | rfl | rfl | rfl | rfl | rfl | rfl | rfl | rfl | rfl | rfl | rfl | rfl | rfl | rfl | rfl | rfl | rfl
  · exact A3_2_1 _ _ _ _ _ _ _ _ _
  · exact A3_2_2 _ _ _ _ _ _ _ _ _
  · exact A3_2_3 _ _ _ _ _ _ _ _ _
  · exact A3_2_4 _ _ _ _ _ _ _ _ _
  · exact A3_2_5 _ _ _ _ _ _ _ _ _
  · exact A3_2_6 _ _ _ _ _ _ _ _ _
  · exact A3_2_7 _ _ _ _ _ _ _ _ _
  · exact A3_2_8 _ _ _ _ _ _ _ _ _
  · exact A3_2_9 _ _ _ _ _ _ _ _ _
  · exact A3_2_10 _ _ _ _ _ _ _ _ _
  · exact A3_2_11 _ _ _ _ _ _ _ _ _
  · exact A3_2_12 _ _ _ _ _ _ _ _ _
  · exact A3_2_13 _ _ _ _ _ _ _ _ _
  · exact A3_2_14 _ _ _ _ _ _ _ _ _
  · exact A3_2_15 _ _ _ _ _ _ _ _ _
  · exact A3_2_16 _ _ _ _ _ _ _ _ _
  · exact A3_2_17 _ _ _ _ _ _ _ _ _
  · exact A3_2_18 _ _ _ _ _ _ _ _ _
  · exact A3_2_19 _ _ _ _ _ _ _ _ _
  · exact A3_2_20 _ _ _ _ _ _ _ _ _
theorem q4 : g_law_2_0 [x0, .val (.list (Ld d)), x2, .val (.int 4), x4, x5, x6, x7, x8, x9, x10, x11] = .nx [x0, .val (.list (Ld d)), x2, .val (.int 4), .val (.int (2 + 0 * (d 4 % 2))), x5, x6, x7, x8, x9, x10, x11] := by kernel_rfl
theorem A4_2_1 : okP [0, 1, 2] (gA [x0, x1, .val (.int 1), .val (.int 4), .val (.int 2), x5, x6, x7, x8, x9, x10, x11]) = some [x0, x1, .val (.int 1)] := by kernel_rfl
theorem A4_2_2 : okP [0, 1, 2] (gA [x0, x1, .val (.int 2), .val (.int 4), .val (.int 2), x5, x6, x7, x8, x9, x10, x11]) = some [x0, x1, .val (.int 2)] := by kernel_rfl
theorem A4_2_3 : okP [0, 1, 2] (gA [x0, x1, .val (.int 3), .val (.int 4), .val (.int 2), x5, x6, x7, x8, x9, x10, x11]) = some [x0, x1, .val (.int 3)] := by kernel_rfl
theorem A4_2_4 : okP [0, 1, 2] (gA [x0, x1, .val (.int 4), .val (.int 4), .val (.int 2), x5, x6, x7, x8, x9, x10, x11]) = some [x0, x1, .val (.int 4)] := by kernel_rfl
theorem A4_2_5 : okP [0, 1, 2] (gA [x0, x1, .val (.int 5), .val (.int 4), .val (.int 2), x5, x6, x7, x8, x9, x10, x11]) = some [x0, x1, .val (.int 5)] := by kernel_rfl
theorem A4_2_6 : okP [0, 1, 2] (gA [x0, x1, .val (.int 6), .val (.int 4), .val (.int 2), x5, x6, x7, x8, x9, x10, x11]) = some [x0, x1, .val (.int 6)] := by kernel_rfl
theorem A4_2_7 : okP [0, 1, 2] (gA [x0, x1, .val (.int 7), .val (.int 4), .val (.int 2), x5, x6, x7, x8, x9, x10, x11]) = some [x0, x1, .val (.int 7)] := by kernel_rfl
theorem A4_2_8 : okP [0, 1, 2] (gA [x0, x1, .val (.int 8), .val (.int 4), .val (.int 2), x5, x6, x7, x8, x9, x10, x11]) = some [x0, x1, .val (.int 8)] := by kernel_rfl
theorem A4_2_9 : okP [0, 1, 2] (gA [x0, x1, .val (.int 9), .val (.int 4), .val (.int 2), x5, x6, x7, x8, x9, x10, x11]) = some [x0, x1, .val (.int 9)] := by kernel_rfl
theorem A4_2_10 : okP [0, 1, 2] (gA [x0, x1, .val (.int 10), .val (.int 4), .val (.int 2), x5, x6, x7, x8, x9, x10, x11]) = some [x0, x1, .val (.int 10)] := by kernel_rfl
theorem A4_2_11 : okP [0, 1, 2] (gA [x0, x1, .val (.int 11), .val (.int 4), .val (.int 2), x5, x6, x7, x8, x9, x10, x11]) = some [x0, x1, .val (.int 11)] := by kernel_rfl
theorem A4_2_12 : okP [0, 1, 2] (gA [x0, x1, .val (.int 12), .val (.int 4), .val (.int 2), x5, x6, x7, x8, x9, x10, x11]) = some [x0, x1, .val (.int 12)] := by kernel_rfl
theorem A4_2_13 : okP [0, 1, 2] (gA [x0, x1, .val (.int 13), .val (.int 4), .val (.int 2), x5, x6, x7, x8, x9, x10, x11]) = some [x0, x1, .val (.int 13)] := by kernel_rfl
theorem A4_2_14 : okP [0, 1, 2] (gA [x0, x1, .val (.int 14), .val (.int 4), .val (.int 2), x5, x6, x7, x8, x9, x10, x11]) = some [x0, x1, .val (.int 14)] := by kernel_rfl
theorem A4_2_15 : okP [0, 1, 2] (gA [x0, x1, .val (.int 15), .val (.int 4), .val (.int 2), x5, x6, x7, x8, x9, x10, x11]) = some [x0, x1, .val (.int 15)] := by kernel_rfl
theorem A4_2_16 : okP [0, 1, 2] (gA [x0, x1, .val (.int 16), .val (.int 4), .val (.int 2), x5, x6, x7, x8, x9, x10, x11]) = some [x0, x1, .val (.int 16)] := by kernel_rfl
theorem A4_2_17 : okP [0, 1, 2] (gA [x0, x1, .val (.int 17), .val (.int 4), .val (.int 2), x5, x6, x7, x8, x9, x10, x11]) = some [x0, x1, .val (.int 17)] := by kernel_rfl
theorem A4_2_18 : okP [0, 1, 2] (gA [x0, x1, .val (.int 18), .val (.int 4), .val (.int 2), x5, x6, x7, x8, x9, x10, x11]) = some [x0, x1, .val (.int 18)] := by kernel_rfl
theorem A4_2_19 : okP [0, 1, 2] (gA [x0, x1, .val (.int 19), .val (.int 4), .val (.int 2), x5, x6, x7, x8, x9, x10, x11]) = some [x0, x1, .val (.int 19)] := by kernel_rfl
theorem A4_2_20 : okP [0, 1, 2] (gA [x0, x1, .val (.int 20), .val (.int 4), .val (.int 2), x5, x6, x7, x8, x9, x10, x11]) = some [x0, x1, .val (.int 20)] := by kernel_rfl
theorem A4_2 (l : Int) (h : 1 ≤ l ∧ l ≤ 20) : okP [0, 1, 2] (gA [x0, x1, .val (.int l), .val (.int 4), .val (.int 2), x5, x6, x7, x8, x9, x10, x11]) = some [x0, x1, .val (.int l)] := by
  have c : l = 1 ∨ l = 2 ∨ l = 3 ∨ l = 4 ∨ l = 5 ∨ l = 6 ∨ l = 7 ∨ l = 8 ∨ l = 9 ∨ l = 10 ∨ l = 11 ∨ l = 12 ∨ l = 13 ∨ l = 14 ∨ l = 15 ∨ l = 16 ∨ l = 17 ∨ l = 18 ∨ l = 19 ∨ l = 20 := by omega
  rcases c with rfl | rfl | rfl | rfl | rfl | rfl | rfl | rfl | rfl | rfl | rfl | rfl | rfl | rfl | rfl | rfl | rfl | rfl | rfl | rfl
  · exact A4_2_1 _ _ _ _ _ _ _ _ _
  · exact A4_2_2 _ _ _ _ _ _ _ _ _
  · exact A4_2_3 _ _ _ _ _ _ _ _ _
  · exact A4_2_4 _ _ _ _ _ _ _ _ _
  · exact A4_2_5 _ _ _ _ _ _ _ _ _
  · exact A4_2_6 _ _ _ _ _ _ _ _ _
  · exact A4_2_7 _ _ _ _ _ _ _ _ _
  · exact A4_2_8 _ _ _ _ _ _ _ _ _
  · exact A4_2_9 _ _ _ _ _ _ _ _ _
  · exact A4_2_10 _ _ _ _ _ _ _ _ _
  · exact A4_2_11 _ _ _ _ _ _ _ _ _
  · exact A4_2_12 _ _ _ _ _ _ _ _ _
  · exact A4_2_13 _ _ _ _ _ _ _ _ _
  · exact A4_2_14 _ _ _ _ _ _ _ _ _
  · exact A4_2_15 _ _ _ _ _ _ _ _ _
  · exact A4_2_16 _ _ _ _ _ _ _ _ _
  · exact A4_2_17 _ _ _ _ _ _ _ _ _
  · exact A4_2_18 _ _ _ _ _ _ _ _ _
  · exact A4_2_19 _ _ _ _ _ _ _ _ _
  · exact A4_2_20 _ _ _ _ _ _ _ _ _
theorem B1_1 : okP [0, 1, 2, 4, 8, 9] (gB [x0, x1, .val (.int 1), x3, .val (.int 1), x5, x6, x7, x8, x9, x10, x11]) = some [x0, x1, .val (.int 1), .val (.int 1), .val (.tuple [.str "red"]), .val (.tuple [.str "a"])] := by kernel_rfl
theorem B1_2 : okP [0, 1, 2, 4, 8, 9] (gB [x0, x1, .val (.int 2), x3, .val (.int 1), x5, x6, x7, x8, x9, x10, x11]) = some [x0, x1, .val (.int 2), .val (.int 1), .val (.tuple [.str "red"]), .val (.tuple [.str "a"])] := by kernel_rfl
theorem B1_3 : okP [0, 1, 2, 4, 8, 9] (gB [x0, x1, .val (.int 3), x3, .val (.int 1), x5, x6, x7, x8, x9, x10, x11]) = some [x0, x1, .val (.int 3), .val (.int 1), .val (.tuple [.str "red"]), .val (.tuple [.str "a"])] := by kernel_rfl
theorem B1_4 : okP [0, 1, 2, 4, 8, 9] (gB [x0, x1, .val (.int 4), x3, .val (.int 1), x5, x6, x7, x8, x9, x10, x11]) = some [x0, x1, .val (.int 4), .val (.int 1), .val (.tuple [.str "red"]), .val (.tuple [.str "a"])] := by kernel_rfl
theorem B1_5 : okP [0, 1, 2, 4, 8, 9] (gB [x0, x1, .val (.int 5), x3, .val (.int 1), x5, x6, x7, x8, x9, x10, x11]) = some [x0, x1, .val (.int 5), .val (.int 1), .val (.tuple [.str "red"]), .val (.tuple [.str "a"])] := by kernel_rfl
theorem B1_6 : okP [0, 1, 2, 4, 8, 9] (gB [x0, x1, .val (.int 6), x3, .val (.int 1), x5, x6, x7, x8, x9, x10, x11]) = some [x0, x1, .val (.int 6), .val (.int 1), .val (.tuple [.str "red"]), .val (.tuple [.str "a"])] := by kernel_rfl
theorem B1_7 : okP [0, 1, 2, 4, 8, 9] (gB [x0, x1, .val (.int 7), x3, .val (.int 1), x5, x6, x7, x8, x9, x10, x11]) = some [x0, x1, .val (.int 7), .val (.int 1), .val (.tuple [.str "red"]), .val (.tuple [.str "a"])] := by kernel_rfl
theorem B1_8 : okP [0, 1, 2, 4, 8, 9] (gB [x0, x1, .val (.int 8), x3, .val (.int 1), x5, x6, x7, x8, x9, x10, x11]) = some [x0, x1, .val (.int 8), .val (.int 1), .val (.tuple [.str "red"]), .val (.tuple [.str "a"])] := by kernel_rfl
theorem B1_9 : okP [0, 1, 2, 4, 8, 9] (gB [x0, x1, .val (.int 9), x3, .val (.int 1), x5, x6, x7, x8, x9, x10, x11]) = some [x0, x1, .val (.int 9), .val (.int 1), .val (.tuple [.str "red"]), .val (.tuple [.str "a"])] := by kernel_rfl
theorem B1_10 : okP [0, 1, 2, 4, 8, 9] (gB [x0, x1, .val (.int 10), x3, .val (.int 1), x5, x6, x7, x8, x9, x10, x11]) = some [x0, x1, .val (.int 10), .val (.int 1), .val (.tuple [.str "red"]), .val (.tuple [.str "a"])] := by kernel_rfl
theorem B1_11 : okP [0, 1, 2, 4, 8, 9] (gB [x0, x1, .val (.int 11), x3, .val (.int 1), x5, x6, x7, x8, x9, x10, x11]) = some [x0, x1, .val (.int 11), .val (.int 1), .val (.tuple [.str "red"]), .val (.tuple [.str "a"])] := by kernel_rfl
theorem B1_12 : okP [0, 1, 2, 4, 8, 9] (gB [x0, x1, .val (.int 12), x3, .val (.int 1), x5, x6, x7, x8, x9, x10, x11]) = some [x0, x1, .val (.int 12), .val (.int 1), .val (.tuple [.str "red"]), .val (.tuple [.str "a"])] := by kernel_rfl
theorem B1_13 : okP [0, 1, 2, 4, 8, 9] (gB [x0, x1, .val (.int 13), x3, .val (.int 1), x5, x6, x7, x8, x9, x10, x11]) = some [x0, x1, .val (.int 13), .val (.int 1), .val (.tuple [.str "red"]), .val (.tuple [.str "a"])] := by kernel_rfl
theorem B1_14 : okP [0, 1, 2, 4, 8, 9] (gB [x0, x1, .val (.int 14), x3, .val (.int 1), x5, x6, x7, x8, x9, x10, x11]) = some [x0, x1, .val (.int 14), .val (.int 1), .val (.tuple [.str "red"]), .val (.tuple [.str "a"])] := by kernel_rfl
theorem B1_15 : okP [0, 1, 2, 4, 8, 9] (gB [x0, x1, .val (.int 15), x3, .val (.int 1), x5, x6, x7, x8, x9, x10, x11]) = some [x0, x1, .val (.int 15), .val (.int 1), .val (.tuple [.str "red"]), .val (.tuple [.str "a"])] := by kernel_rfl
theorem B1_16 : okP [0, 1, 2, 4, 8, 9] (gB [x0, x1, .val (.int 16), x3, .val (.int 1), x5, x6, x7, x8, x9, x10, x11]) = some [x0, x1, .val (.int 16), .val (.int 1), .val (.tuple [.str "red"]), .val (.tuple [.str "a"])] := by kernel_rfl
theorem B1_17 : okP [0, 1, 2, 4, 8, 9] (gB [x0, x1, .val (.int 17), x3, .val (.int 1), x5, x6, x7, x8, x9, x10, x11]) = some [x0, x1, .val (.int 17), .val (.int 1), .val (.tuple [.str "red"]), .val (.tuple [.str "a"])] := by kernel_rfl
theorem B1_18 : okP [0, 1, 2, 4, 8, 9] (gB [x0, x1, .val (.int 18), x3, .val (.int 1), x5, x6, x7, x8, x9, x10, x11]) = some [x0, x1, .val (.int 18), .val (.int 1), .val (.tuple [.str "red"]), .val (.tuple [.str "a"])] := by kernel_rfl
theorem B1_19 : okP [0, 1, 2, 4, 8, 9] (gB [x0, x1, .val (.int 19), x3, .val (.int 1), x5, x6, x7, x8, x9, x10, x11]) = some [x0, x1, .val (.int 19), .val (.int 1), .val (.tuple [.str "red"]), .val (.tuple [.str "a"])] := by kernel_rfl
theorem B1_20 : okP [0, 1, 2, 4, 8, 9] (gB [x0, x1, .val (.int 20), x3, .val (.int 1), x5, x6, x7, x8, x9, x10, x11]) = some [x0, x1, .val (.int 20), .val (.int 1), .val (.tuple [.str "red"]), .val (.tuple [.str "a"])] := by kernel_rfl
theorem B1 (l : Int) (h : 1 ≤ l ∧ l ≤ 20) : okP [0, 1, 2, 4, 8, 9] (gB [x0, x1, .val (.int l), x3, .val (.int 1), x5, x6, x7, x8, x9, x10, x11]) = some [x0, x1, .val (.int l), .val (.int 1), .val (.tuple [.str "red"]), .val (.tuple [.str "a"])] := by
  have c : l = 1 ∨ l = 2 ∨ l = 3 ∨ l = 4 ∨ l = 5 ∨ l = 6 ∨ l = 7 ∨ l = 8 ∨ l = 9 ∨ l = 10 ∨ l = 11 ∨ l = 12 ∨ l = 13 ∨ l = 14 ∨ l = 15 ∨ l = 16 ∨ l = 17 ∨ l = 18 ∨ l = 19 ∨ l = 20 := by omega
  rcases c with rfl | rfl | rfl | rfl | rfl | rfl | rfl | rfl | rfl | rfl | rfl | rfl | rfl | rfl | rfl | rfl | rfl | rfl | rfl | rfl
  · exact B1_1 _ _ _ _ _ _ _ _ _ _
  · exact B1_2 _ _ _ _ _ _ _ _ _ _
  · exact B1_3 _ _ _ _ _ _ _ _ _ _
  · exact B1_4 _ _ _ _ _ _ _ _ _ _
  · exact B1_5 _ _ _ _ _ _ _ _ _ _
  · exact B1_6 _ _ _ _ _ _ _ _ _ _
  · exact B1_7 _ _ _ _ _ _ _ _ _ _
  · exact B1_8 _ _ _ _ _ _ _ _ _ _
  · exact B1_9 _ _ _ _ _ _ _ _ _ _
  · exact B1_10 _ _ _ _ _ _ _ _ _ _
  · exact B1_11 _ _ _ _ _ _ _ _ _ _
  · exact B1_12 _ _ _ _ _ _ _ _ _ _
  · exact B1_13 _ _ _ _ _ _ _ _ _ _
  · exact B1_14 _ _ _ _ _ _ _ _ _ _
  · exact B1_15 _ _ _ _ _ _ _ _ _ _
  · exact B1_16 _ _ _ _ _ _ _ _ _ _
  · exact B1_17 _ _ _ _ _ _ _ _ _ _
  · exact B1_18 _ _ _ _ _ _ _ _ _ _
  · exact B1_19 _ _ _ _ _ _ _ _ _ _
  · exact B1_20 _ _ _ _ _ _ _ _ _ _
theorem r1 : g_law_3_3 [x0, .val (.list (Ld d)), x2, x3, .val (.int 1), x5, x6, x7, x8, x9, x10, x11] = .nx [x0, .val (.list (Ld d)), x2, x3, .val (.int 1), x5, x6, x7, x8, x9, .val (.int (d 1 % 1)), x11] := by kernel_rfl
theorem S1_0 : okP [0, 1, 2, 4] (g_law_3_4 [x0, x1, x2, x3, .val (.int 1), x5, x6, x7, .val (.tuple [.str "red"]), .val (.tuple [.str "a"]), .val (.int 0), x11]) = some [x0, x1, x2, .val (.int 1)] := by kernel_rfl
theorem S1 (s : Int) (h : 0 ≤ s ∧ s < 1) : okP [0, 1, 2, 4] (g_law_3_4 [x0, x1, x2, x3, .val (.int 1), x5, x6, x7, .val (.tuple [.str "red"]), .val (.tuple [.str "a"]), .val (.int s), x11]) = some [x0, x1, x2, .val (.int 1)] := by
  have c : s = 0 := by omega
  rcases c with rfl
  · exact S1_0 _ _ _ _ _ _ _ _
theorem C1 : okP [0, 1, 2] (gC [x0, x1, x2, x3, .val (.int 1), x5, x6, x7, x8, x9, x10, x11]) = some [x0, x1, x2] := by kernel_rfl
theorem T1 (l : Int) (h : 1 ≤ l ∧ l ≤ 20) : ∃ ρ, gT [x0, .val (.list (Ld d)), .val (.int l), x3, .val (.int 1), x5, x6, x7, x8, x9, x10, x11] = .nx ρ ∧ ρ.length = 12 ∧ [0, 1, 2].map (fun j => ρ.getD j .no) = [x0, .val (.list (Ld d)), .val (.int l)] := by
  rw [gT_eq]
  obtain ⟨ρ1, h1, l1, t1⟩ := okP_of (B1 x0 (.val (.list (Ld d))) x3 x5 x6 x7 x8 x9 x10 x11 l h)
  obtain ⟨y0, y1, y2, y3, y4, y5, y6, y7, y8, y9, y10, y11, rfl⟩ := exp12 l1
  simp only [List.map_cons, List.map_nil, List.getD_cons_zero, List.getD_cons_succ, List.cons.injEq, and_true] at t1
  obtain ⟨rfl, rfl, rfl, rfl, rfl, rfl⟩ := t1
  rw [seq_nx h1, seq_nx (r1 y0 (.val (.int l)) _ _ _ _ _ _ _ _ d)]
  obtain ⟨ρ2, h2, l2, t2⟩ := okP_of (S1 y0 (.val (.list (Ld d))) (.val (.int l)) y3 y5 y6 y7 y11 (d 1 % 1) (by omega))
  obtain ⟨z0, z1, z2, z3, z4, z5, z6, z7, z8, z9, z10, z11, rfl⟩ := exp12 l2
  simp only [List.map_cons, List.map_nil, List.getD_cons_zero, List.getD_cons_succ, List.cons.injEq, and_true] at t2
  obtain ⟨rfl, rfl, rfl, rfl⟩ := t2
  rw [seq_nx h2]
  exact okP_of (C1 _ _ _ _ _ _ _ _ _ _ _)
theorem B2_1 : okP [0, 1, 2, 4, 8, 9] (gB [x0, x1, .val (.int 1), x3, .val (.int 2), x5, x6, x7, x8, x9, x10, x11]) = some [x0, x1, .val (.int 1), .val (.int 2), .val (.tuple [.str "red", .str "red"]), .val (.tuple [.str "a", .str "b"])] := by kernel_rfl
theorem B2_2 : okP [0, 1, 2, 4, 8, 9] (gB [x0, x1, .val (.int 2), x3, .val (.int 2), x5, x6, x7, x8, x9, x10, x11]) = some [x0, x1, .val (.int 2), .val (.int 2), .val (.tuple [.str "red", .str "red"]), .val (.tuple [.str "a", .str "b"])] := by kernel_rfl
theorem B2_3 : okP [0, 1, 2, 4, 8, 9] (gB [x0, x1, .val (.int 3), x3, .val (.int 2), x5, x6, x7, x8, x9, x10, x11]) = some [x0, x1, .val (.int 3), .val (.int 2), .val (.tuple [.str "red", .str "red"]), .val (.tuple [.str "a", .str "b"])] := by kernel_rfl
theorem B2_4 : okP [0, 1, 2, 4, 8, 9] (gB [x0, x1, .val (.int 4), x3, .val (.int 2), x5, x6, x7, x8, x9, x10, x11]) = some [x0, x1, .val (.int 4), .val (.int 2), .val (.tuple [.str "red", .str "red"]), .val (.tuple [.str "a", .str "b"])] := by kernel_rfl
theorem B2_5 : okP [0, 1, 2, 4, 8, 9] (gB [x0, x1, .val (.int 5), x3, .val (.int 2), x5, x6, x7, x8, x9, x10, x11]) = some [x0, x1, .val (.int 5), .val (.int 2), .val (.tuple [.str "red", .str "red"]), .val (.tuple [.str "a", .str "b"])] := by kernel_rfl
theorem B2_6 : okP [0, 1, 2, 4, 8, 9] (gB [x0, x1, .val (.int 6), x3, .val (.int 2), x5, x6, x7, x8, x9, x10, x11]) = some [x0, x1, .val (.int 6), .val (.int 2), .val (.tuple [.str "red", .str "red"]), .val (.tuple [.str "a", .str "b"])] := by kernel_rfl
theorem B2_7 : okP [0, 1, 2, 4, 8, 9] (gB [x0, x1, .val (.int 7), x3, .val (.int 2), x5, x6, x7, x8, x9, x10, x11]) = some [x0, x1, .val (.int 7), .val (.int 2), .val (.tuple [.str "red", .str "red"]), .val (.tuple [.str "a", .str "b"])] := by kernel_rfl
theorem B2_8 : okP [0, 1, 2, 4, 8, 9] (gB [x0, x1, .val (.int 8), x3, .val (.int 2), x5, x6, x7, x8, x9, x10, x11]) = some [x0, x1, .val (.int 8), .val (.int 2), .val (.tuple [.str "red", .str "red"]), .val (.tuple [.str "a", .str "b"])] := by kernel_rfl
theorem B2_9 : okP [0, 1, 2, 4, 8, 9] (gB [x0, x1, .val (.int 9), x3, .val (.int 2), x5, x6, x7, x8, x9, x10, x11]) = some [x0, x1, .val (.int 9), .val (.int 2), .val (.tuple [.str "red", .str "red"]), .val (.tuple [.str "a", .str "b"])] := by kernel_rfl
theorem B2_10 : okP [0, 1, 2, 4, 8, 9] (gB [x0, x1, .val (.int 10), x3, .val (.int 2), x5, x6, x7, x8, x9, x10, x11]) = some [x0, x1, .val (.int 10), .val (.int 2), .val (.tuple [.str "red", .str "red"]), .val (.tuple [.str "a", .str "b"])] := by kernel_rfl
theorem B2_11 : okP [0, 1, 2, 4, 8, 9] (gB [x0, x1, .val (.int 11), x3, .val (.int 2), x5, x6, x7, x8, x9, x10, x11]) = some [x0, x1, .val (.int 11), .val (.int 2), .val (.tuple [.str "red", .str "red"]), .val (.tuple [.str "a", .str "b"])] := by kernel_rfl
theorem B2_12 : okP [0, 1, 2, 4, 8, 9] (gB [x0, x1, .val (.int 12), x3, .val (.int 2), x5, x6, x7, x8, x9, x10, x11]) = some [x0, x1, .val (.int 12), .val (.int 2), .val (.tuple [.str "red", .str "red"]), .val (.tuple [.str "a", .str "b"])] := by kernel_rfl
theorem B2_13 : okP [0, 1, 2, 4, 8, 9] (gB [x0, x1, .val (.int 13), x3, .val (.int 2), x5, x6, x7, x8, x9, x10, x11]) = some [x0, x1, .val (.int 13), .val (.int 2), .val (.tuple [.str "red", .str "red"]), .val (.tuple [.str "a", .str "b"])] := by kernel_rfl
theorem B2_14 : okP [0, 1, 2, 4, 8, 9] (gB [x0, x1, .val (.int 14), x3, .val (.int 2), x5, x6, x7, x8, x9, x10, x11]) = some [x0, x1, .val (.int 14), .val (.int 2), .val (.tuple [.str "red", .str "red"]), .val (.tuple [.str "a", .str "b"])] := by kernel_rfl
theorem B2_15 : okP [0, 1, 2, 4, 8, 9] (gB [x0, x1, .val (.int 15), x3, .val (.int 2), x5, x6, x7, x8, x9, x10, x11]) = some [x0, x1, .val (.int 15), .val (.int 2), .val (.tuple [.str "red", .str "red"]), .val (.tuple [.str "a", .str "b"])] := by kernel_rfl
theorem B2_16 : okP [0, 1, 2, 4, 8, 9] (gB [x0, x1, .val (.int 16), x3, .val (.int 2), x5, x6, x7, x8, x9, x10, x11]) = some [x0, x1, .val (.int 16), .val (.int 2), .val (.tuple [.str "red", .str "red"]), .val (.tuple [.str "a", .str "b"])] := by kernel_rfl
theorem B2_17 : okP [0, 1, 2, 4, 8, 9] (gB [x0, x1, .val (.int 17), x3, .val (.int 2), x5, x6, x7, x8, x9, x10, x11]) = some [x0, x1, .val (.int 17), .val (.int 2), .val (.tuple [.str "red", .str "red"]), .val (.tuple [.str "a", .str "b"])] := by kernel_rfl
theorem B2_18 : okP [0, 1, 2, 4, 8, 9] (gB [x0, x1, .val (.int 18), x3, .val (.int 2), x5, x6, x7, x8, x9, x10, x11]) = some [x0, x1, .val (.int 18), .val (.int 2), .val (.tuple [.str "red", .str "red"]), .val (.tuple [.str "a", .str "b"])] := by kernel_rfl
theorem B2_19 : okP [0, 1, 2, 4, 8, 9] (gB [x0, x1, .val (.int 19), x3, .val (.int 2), x5, x6, x7, x8, x9, x10, x11]) = some [x0, x1, .val (.int 19), .val (.int 2), .val (.tuple [.str "red", .str "red"]), .val (.tuple [.str "a", .str "b"])] := by kernel_rfl
theorem B2_20 : okP [0, 1, 2, 4, 8, 9] (gB [x0, x1, .val (.int 20), x3, .val (.int 2), x5, x6, x7, x8, x9, x10, x11]) = some [x0, x1, .val (.int 20), .val (.int 2), .val (.tuple [.str "red", .str "red"]), .val (.tuple [.str "a", .str "b"])] := by kernel_rfl
theorem B2 (l : Int) (h : 1 ≤ l ∧ l ≤ 20) : okP [0, 1, 2, 4, 8, 9] (gB [x0, x1, .val (.int l), x3, .val (.int 2), x5, x6, x7, x8, x9, x10, x11]) = some [x0, x1, .val (.int l), .val (.int 2), .val (.tuple [.str "red", .str "red"]), .val (.tuple [.str "a", .str "b"])] := by
  have c : l = 1 ∨ l = 2 ∨ l = 3 ∨ l = 4 ∨ l = 5 ∨ l = 6 ∨ l = 7 ∨ l = 8 ∨ l = 9 ∨ l = 10 ∨ l = 11 ∨ l = 12 ∨ l = 13 ∨ l = 14 ∨ l = 15 ∨ l = 16 ∨ l = 17 ∨ l = 18 ∨ l = 19 ∨ l = 20 := by omega
  rcases c with rfl | rfl | rfl | rfl | rfl | rfl | rfl | rfl | rfl | rfl | rfl | rfl | rfl | rfl | rfl | rfl | rfl | rfl | rfl | rfl
  · exact B2_1 _ _ _ _ _ _ _ _ _ _
  · exact B2_2 _ _ _ _ _ _ _ _ _ _
  · exact B2_3 _ _ _ _ _ _ _ _ _ _
  · exact B2_4 _ _ _ _ _ _ _ _ _ _
  · exact B2_5 _ _ _ _ _ _ _ _ _ _
  · exact B2_6 _ _ _ _ _ _ _ _ _ _
  · exact B2_7 _ _ _ _ _ _ _ _ _ _
  · exact B2_8 _ _ _ _ _ _ _ _ _ _
  · exact B2_9 _ _ _ _ _ _ _ _ _ _
  · exact B2_10 _ _ _ _ _ _ _ _ _ _
  · exact B2_11 _ _ _ _ _ _ _ _ _ _
  · exact B2_12 _ _ _ _ _ _ _ _ _ _
  · exact B2_13 _ _ _ _ _ _ _ _ _ _
  · exact B2_14 _ _ _ _ _ _ _ _ _ _
  · exact B2_15 _ _ _ _ _ _ _ _ _ _
  · exact B2_16 _ _ _ _ _ _ _ _ _ _
  · exact B2_17 _ _ _ _ _ _ _ _ _ _
  · exact B2_18 _ _ _ _ _ _ _ _ _ _
  · exact B2_19 _ _ _ _ _ _ _ _ _ _
  · exact B2_20 _ _ _ _ _ _ _ _ _ _
theorem r2 : g_law_3_3 [x0, .val (.list (Ld d)), x2, x3, .val (.int 2), x5, x6, x7, x8, x9, x10, x11] = .nx [x0, .val (.list (Ld d)), x2, x3, .val (.int 2), x5, x6, x7, x8, x9, .val (.int (d 2 % 2)), x11] := by kernel_rfl
theorem S2_0 : okP [0, 1, 2, 4] (g_law_3_4 [x0, x1, x2, x3, .val (.int 2), x5, x6, x7, .val (.tuple [.str "red", .str "red"]), .val (.tuple [.str "a", .str "b"]), .val (.int 0), x11]) = some [x0, x1, x2, .val (.int 2)] := by kernel_rfl
theorem S2_1 : okP [0, 1, 2, 4] (g_law_3_4 [x0, x1, x2, x3, .val (.int 2), x5, x6, x7, .val (.tuple [.str "red", .str "red"]), .val (.tuple [.str "a", .str "b"]), .val (.int 1), x11]) = some [x0, x1, x2, .val (.int 2)] := by kernel_rfl
theorem S2 (s : Int) (h : 0 ≤ s ∧ s < 2) : okP [0, 1, 2, 4] (g_law_3_4 [x0, x1, x2, x3, .val (.int 2), x5, x6, x7, .val (.tuple [.str "red", .str "red"]), .val (.tuple [.str "a", .str "b"]), .val (.int s), x11]) = some [x0, x1, x2, .val (.int 2)] := by
  have c : s = 0 ∨ s = 1 := by omega
  rcases c with rfl | rfl
  · exact S2_0 _ _ _ _ _ _ _ _
  · exact S2_1 _ _ _ _ _ _ _ _
theorem C2 : okP [0, 1, 2] (gC [x0, x1, x2, x3, .val (.int 2), x5, x6, x7, x8, x9, x10, x11]) = some [x0, x1, x2] := by kernel_rfl
theorem T2 (l : Int) (h : 1 ≤ l ∧ l ≤ 20) : ∃ ρ, gT [x0, .val (.list (Ld d)), .val (.int l), x3, .val (.int 2), x5, x6, x7, x8, x9, x10, x11] = .nx ρ ∧ ρ.length = 12 ∧ [0, 1, 2].map (fun j => ρ.getD j .no) = [x0, .val (.list (Ld d)), .val (.int l)] := by
  rw [gT_eq]
  obtain ⟨ρ1, h1, l1, t1⟩ := okP_of (B2 x0 (.val (.list (Ld d))) x3 x5 x6 x7 x8 x9 x10 x11 l h)
  obtain ⟨y0, y1, y2, y3, y4, y5, y6, y7, y8, y9, y10, y11, rfl⟩ := exp12 l1
  simp only [List.map_cons, List.map_nil, List.getD_cons_zero, List.getD_cons_succ, List.cons.injEq, and_true] at t1
  obtain ⟨rfl, rfl, rfl, rfl, rfl, rfl⟩ := t1
  rw [seq_nx h1, seq_nx (r2 y0 (.val (.int l)) _ _ _ _ _ _ _ _ d)]
  obtain ⟨ρ2, h2, l2, t2⟩ := okP_of (S2 y0 (.val (.list (Ld d))) (.val (.int l)) y3 y5 y6 y7 y11 (d 2 % 2) (by omega))
  obtain ⟨z0, z1, z2, z3, z4, z5, z6, z7, z8, z9, z10, z11, rfl⟩ := exp12 l2
  simp only [List.map_cons, List.map_nil, List.getD_cons_zero, List.getD_cons_succ, List.cons.injEq, and_true] at t2
  obtain ⟨rfl, rfl, rfl, rfl⟩ := t2
  rw [seq_nx h2]
  exact okP_of (C2 _ _ _ _ _ _ _ _ _ _ _)
theorem B3_1 : okP [0, 1, 2, 4, 8, 9] (gB [x0, x1, .val (.int 1), x3, .val (.int 3), x5, x6, x7, x8, x9, x10, x11]) = some [x0, x1, .val (.int 1), .val (.int 3), .val (.tuple [.str "red", .str "red", .str "red"]), .val (.tuple [.str "a", .str "b", .str "c"])] := by kernel_rfl
theorem B3_2 : okP [0, 1, 2, 4, 8, 9] (gB [x0, x1, .val (.int 2), x3, .val (.int 3), x5, x6, x7, x8, x9, x10, x11]) = some [x0, x1, .val (.int 2), .val (.int 3), .val (.tuple [.str "red", .str "red", .str "red"]), .val (.tuple [.str "a", .str "b", .str "c"])] := by kernel_rfl
theorem B3_3 : okP [0, 1, 2, 4, 8, 9] (gB [x0, x1, .val (.int 3), x3, .val (.int 3), x5, x6, x7, x8, x9, x10, x11]) = some [x0, x1, .val (.int 3), .val (.int 3), .val (.tuple [.str "red", .str "red", .str "red"]), .val (.tuple [.str "a", .str "b", .str "c"])] := by kernel_rfl
theorem B3_4 : okP [0, 1, 2, 4, 8, 9] (gB [x0, x1, .val (.int 4), x3, .val (.int 3), x5, x6, x7, x8, x9, x10, x11]) = some [x0, x1, .val (.int 4), .val (.int 3), .val (.tuple [.str "red", .str "red", .str "red"]), .val (.tuple [.str "a", .str "b", .str "c"])] := by kernel_rfl
theorem B3_5 : okP [0, 1, 2, 4, 8, 9] (gB [x0, x1, .val (.int 5), x3, .val (.int 3), x5, x6, x7, x8, x9, x10, x11]) = some [x0, x1, .val (.int 5), .val (.int 3), .val (.tuple [.str "red", .str "red", .str "red"]), .val (.tuple [.str "a", .str "b", .str "c"])] := by kernel_rfl
theorem B3_6 : okP [0, 1, 2, 4, 8, 9] (gB [x0, x1, .val (.int 6), x3, .val (.int 3), x5, x6, x7, x8, x9, x10, x11]) = some [x0, x1, .val (.int 6), .val (.int 3), .val (.tuple [.str "red", .str "red", .str "red"]), .val (.tuple [.str "a", .str "b", .str "c"])] := by kernel_rfl
theorem B3_7 : okP [0, 1, 2, 4, 8, 9] (gB [x0, x1, .val (.int 7), x3, .val (.int 3), x5, x6, x7, x8, x9, x10, x11]) = some [x0, x1, .val (.int 7), .val (.int 3), .val (.tuple [.str "red", .str "red", .str "red"]), .val (.tuple [.str "a", .str "b", .str "c"])] := by kernel_rfl
theorem B3_8 : okP [0, 1, 2, 4, 8, 9] (gB [x0, x1, .val (.int 8), x3, .val (.int 3), x5, x6, x7, x8, x9, x10, x11]) = some [x0, x1, .val (.int 8), .val (.int 3), .val (.tuple [.str "red", .str "red", .str "red"]), .val (.tuple [.str "a", .str "b", .str "c"])] := by kernel_rfl
theorem B3_9 : okP [0, 1, 2, 4, 8, 9] (gB [x0, x1, .val (.int 9), x3, .val (.int 3), x5, x6, x7, x8, x9, x10, x11]) = some [x0, x1, .val (.int 9), .val (.int 3), .val (.tuple [.str "red", .str "red", .str "red"]), .val (.tuple [.str "a", .str "b", .str "c"])] := by kernel_rfl
theorem B3_10 : okP [0, 1, 2, 4, 8, 9] (gB [x0, x1, .val (.int 10), x3, .val (.int 3), x5, x6, x7, x8, x9, x10, x11]) = some [x0, x1, .val (.int 10), .val (.int 3), .val (.tuple [.str "red", .str "red", .str "red"]), .val (.tuple [.str "a", .str "b", .str "c"])] := by kernel_rfl
theorem B3_11 : okP [0, 1, 2, 4, 8, 9] (gB [x0, x1, .val (.int 11), x3, .val (.int 3), x5, x6, x7, x8, x9, x10, x11]) = some [x0, x1, .val (.int 11), .val (.int 3), .val (.tuple [.str "red", .str "red", .str "red"]), .val (.tuple [.str "a", .str "b", .str "c"])] := by kernel_rfl
theorem B3_12 : okP [0, 1, 2, 4, 8, 9] (gB [x0, x1, .val (.int 12), x3, .val (.int 3), x5, x6, x7, x8, x9, x10, x11]) = some [x0, x1, .val (.int 12), .val (.int 3), .val (.tuple [.str "red", .str "red", .str "red"]), .val (.tuple [.str "a", .str "b", .str "c"])] := by kernel_rfl
theorem B3_13 : okP [0, 1, 2, 4, 8, 9] (gB [x0, x1, .val (.int 13), x3, .val (.int 3), x5, x6, x7, x8, x9, x10, x11]) = some [x0, x1, .val (.int 13), .val (.int 3), .val (.tuple [.str "red", .str "red", .str "red"]), .val (.tuple [.str "a", .str "b", .str "c"])] := by kernel_rfl
theorem B3_14 : okP [0, 1, 2, 4, 8, 9] (gB [x0, x1, .val (.int 14), x3, .val (.int 3), x5, x6, x7, x8, x9, x10, x11]) = some [x0, x1, .val (.int 14), .val (.int 3), .val (.tuple [.str "red", .str "red", .str "red"]), .val (.tuple [.str "a", .str "b", .str "c"])] := by kernel_rfl
theorem B3_15 : okP [0, 1, 2, 4, 8, 9] (gB [x0, x1, .val (.int 15), x3, .val (.int 3), x5, x6, x7, x8, x9, x10, x11]) = some [x0, x1, .val (.int 15), .val (.int 3), .val (.tuple [.str "red", .str "red", .str "red"]), .val (.tuple [.str "a", .str "b", .str "c"])] := by kernel_rfl
theorem B3_16 : okP [0, 1, 2, 4, 8, 9] (gB [x0, x1, .val (.int 16), x3, .val (.int 3), x5, x6, x7, x8, x9, x10, x11]) = some [x0, x1, .val (.int 16), .val (.int 3), .val (.tuple [.str "red", .str "red", .str "red"]), .val (.tuple [.str "a", .str "b", .str "c"])] := by kernel_rfl
theorem B3_17 : okP [0, 1, 2, 4, 8, 9] (gB [x0, x1, .val (.int 17), x3, .val (.int 3), x5, x6, x7, x8, x9, x10, x11]) = some [x0, x1, .val (.int 17), .val (.int 3), .val (.tuple [.str "red", .str "red", .str "red"]), .val (.tuple [.str "a", .str "b", .str "c"])] := by kernel_rfl
theorem B3_18 : okP [0, 1, 2, 4, 8, 9] (gB [x0, x1, .val (.int 18), x3, .val (.int 3), x5, x6, x7, x8, x9, x10, x11]) = some [x0, x1, .val (.int 18), .val (.int 3), .val (.tuple [.str "red", .str "red", .str "red"]), .val (.tuple [.str "a", .str "b", .str "c"])] := by kernel_rfl
theorem B3_19 : okP [0, 1, 2, 4, 8, 9] (gB [x0, x1, .val (.int 19), x3, .val (.int 3), x5, x6, x7, x8, x9, x10, x11]) = some [x0, x1, .val (.int 19), .val (.int 3), .val (.tuple [.str "red", .str "red", .str "red"]), .val (.tuple [.str "a", .str "b", .str "c"])] := by kernel_rfl
theorem B3_20 : okP [0, 1, 2, 4, 8, 9] (gB [x0, x1, .val (.int 20), x3, .val (.int 3), x5, x6, x7, x8, x9, x10, x11]) = some [x0, x1, .val (.int 20), .val (.int 3), .val (.tuple [.str "red", .str "red", .str "red"]), .val (.tuple [.str "a", .str "b", .str "c"])] := by kernel_rfl
theorem B3 (l : Int) (h : 1 ≤ l ∧ l ≤ 20) : okP [0, 1, 2, 4, 8, 9] (gB [x0, x1, .val (.int l), x3, .val (.int 3), x5, x6, x7, x8, x9, x10, x11]) = some [x0, x1, .val (.int l), .val (.int 3), .val (.tuple [.str "red", .str "red", .str "red"]), .val (.tuple [.str "a", .str "b", .str "c"])] := by
  have c : l = 1 ∨ l = 2 ∨ l = 3 ∨ l = 4 ∨ l = 5 ∨ l = 6 ∨ l = 7 ∨ l = 8 ∨ l = 9 ∨ l = 10 ∨ l = 11 ∨ l = 12 ∨ l = 13 ∨ l = 14 ∨ l = 15 ∨ l = 16 ∨ l = 17 ∨ l = 18 ∨ l = 19 ∨ l = 20 := by omega
  rcases c with rfl | rfl | rfl | rfl | rfl | rfl | rfl | rfl | rfl | rfl | rfl | rfl | rfl | rfl | rfl | rfl | rfl | rfl | rfl | rfl
  · exact B3_1 _ _ _ _ _ _ _ _ _ _
  · exact B3_2 _ _ _ _ _ _ _ _ _ _
  · exact B3_3 _ _ _ _ _ _ _ _ _ _
  · exact B3_4 _ _ _ _ _ _ _ _ _ _
  · exact B3_5 _ _ _ _ _ _ _ _ _ _
  · exact B3_6 _ _ _ _ _ _ _ _ _ _
  · exact B3_7 _ _ _ _ _ _ _ _ _ _
  · exact B3_8 _ _ _ _ _ _ _ _ _ _
  · exact B3_9 _ _ _ _ _ _ _ _ _ _
  · exact B3_10 _ _ _ _ _ _ _ _ _ _
  · exact B3_11 _ _ _ _ _ _ _ _ _ _
  · exact B3_12 _ _ _ _ _ _ _ _ _ _
  · exact B3_13 _ _ _ _ _ _ _ _ _ _
  · exact B3_14 _ _ _ _ _ _ _ _ _ _
  · exact B3_15 _ _ _ _ _ _ _ _ _ _
  · exact B3_16 _ _ _ _ _ _ _ _ _ _
  · exact B3_17 _ _ _ _ _ _ _ _ _ _
  · exact B3_18 _ _ _ _ _ _ _ _ _ _
  · exact B3_19 _ _ _ _ _ _ _ _ _ _
  · exact B3_20 _ _ _ _ _ _ _ _ _ _
theorem r3 : g_law_3_3 [x0, .val (.list (Ld d)), x2, x3, .val (.int 3), x5, x6, x7, x8, x9, x10, x11] = .nx [x0, .val (.list (Ld d)), x2, x3, .val (.int 3), x5, x6, x7, x8, x9, .val (.int (d 3 % 3)), x11] := by kernel_rfl
theorem S3_0 : okP [0, 1, 2, 4] (g_law_3_4 [x0, x1, x2, x3, .val (.int 3), x5, x6, x7, .val (.tuple [.str "red", .str "red", .str "red"]), .val (.tuple [.str "a", .str "b", .str "c"]), .val (.int 0), x11]) = some [x0, x1, x2, .val (.int 3)] := by kernel_rfl
theorem S3_1 : okP [0, 1, 2, 4] (g_law_3_4 [x0, x1, x2, x3, .val (.int 3), x5, x6, x7, .val (.tuple [.str "red", .str "red", .str "red"]), .val (.tuple [.str "a", .str "b", .str "c"]), .val (.int 1), x11]) = some [x0, x1, x2, .val (.int 3)] := by kernel_rfl
theorem S3_2 : okP [0, 1, 2, 4] (g_law_3_4 [x0, x1, x2, x3, .val (.int 3), x5, x6, x7, .val (.tuple [.str "red", .str "red", .str "red"]), .val (.tuple [.str "a", .str "b", .str "c"]), .val (.int 2), x11]) = some [x0, x1, x2, .val (.int 3)] := by kernel_rfl
theorem S3 (s : Int) (h : 0 ≤ s ∧ s < 3) : okP [0, 1, 2, 4] (g_law_3_4 [x0, x1, x2, x3, .val (.int 3), x5, x6, x7, .val (.tuple [.str "red", .str "red", .str "red"]), .val (.tuple [.str "a", .str "b", .str "c"]), .val (.int s), x11]) = some [x0, x1, x2, .val (.int 3)] := by
  have c : s = 0 ∨ s = 1 ∨ s = 2 := by omega
  rcases c with rfl | rfl | rfl
  · exact S3_0 _ _ _ _ _ _ _ _
  · exact S3_1 _ _ _ _ _ _ _ _
  · exact S3_2 _ _ _ _ _ _ _ _
theorem C3 : okP [0, 1, 2] (gC [x0, x1, x2, x3, .val (.int 3), x5, x6, x7, x8, x9, x10, x11]) = some [x0, x1, x2] := by kernel_rfl
theorem T3 (l : Int) (h : 1 ≤ l ∧ l ≤ 20) : ∃ ρ, gT [x0, .val (.list (Ld d)), .val (.int l), x3, .val (.int 3), x5, x6, x7, x8, x9, x10, x11] = .nx ρ ∧ ρ.length = 12 ∧ [0, 1, 2].map (fun j => ρ.getD j .no) = [x0, .val (.list (Ld d)), .val (.int l)] := by
  rw [gT_eq]
  obtain ⟨ρ1, h1, l1, t1⟩ := okP_of (B3 x0 (.val (.list (Ld d))) x3 x5 x6 x7 x8 x9 x10 x11 l h)
  obtain ⟨y0, y1, y2, y3, y4, y5, y6, y7, y8, y9, y10, y11, rfl⟩ := exp12 l1
  simp only [List.map_cons, List.map_nil, List.getD_cons_zero, List.getD_cons_succ, List.cons.injEq, and_true] at t1
  obtain ⟨rfl, rfl, rfl, rfl, rfl, rfl⟩ := t1
  rw [seq_nx h1, seq_nx (r3 y0 (.val (.int l)) _ _ _ _ _ _ _ _ d)]
  obtain ⟨ρ2, h2, l2, t2⟩ := okP_of (S3 y0 (.val (.list (Ld d))) (.val (.int l)) y3 y5 y6 y7 y11 (d 3 % 3) (by omega))
  obtain ⟨z0, z1, z2, z3, z4, z5, z6, z7, z8, z9, z10, z11, rfl⟩ := exp12 l2
  simp only [List.map_cons, List.map_nil, List.getD_cons_zero, List.getD_cons_succ, List.cons.injEq, and_true] at t2
  obtain ⟨rfl, rfl, rfl, rfl⟩ := t2
  rw [seq_nx h2]
  exact okP_of (C3 _ _ _ _ _ _ _ _ _ _ _)
theorem B4_1 : okP [0, 1, 2, 4, 8, 9] (gB [x0, x1, .val (.int 1), x3, .val (.int 4), x5, x6, x7, x8, x9, x10, x11]) = some [x0, x1, .val (.int 1), .val (.int 4), .val (.tuple [.str "red", .str "red", .str "red", .str "red"]), .val (.tuple [.str "a", .str "b", .str "c", .str "d"])] := by kernel_rfl
theorem B4_2 : okP [0, 1, 2, 4, 8, 9] (gB [x0, x1, .val (.int 2), x3, .val (.int 4), x5, x6, x7, x8, x9, x10, x11]) = some [x0, x1, .val (.int 2), .val (.int 4), .val (.tuple [.str "red", .str "red", .str "red", .str "red"]), .val (.tuple [.str "a", .str "b", .str "c", .str "d"])] := by kernel_rfl
theorem B4_3 : okP [0, 1, 2, 4, 8, 9] (gB [x0, x1, .val (.int 3), x3, .val (.int 4), x5, x6, x7, x8, x9, x10, x11]) = some [x0, x1, .val (.int 3), .val (.int 4), .val (.tuple [.str "red", .str "red", .str "red", .str "red"]), .val (.tuple [.str "a", .str "b", .str "c", .str "d"])] := by kernel_rfl
theorem B4_4 : okP [0, 1, 2, 4, 8, 9] (gB [x0, x1, .val (.int 4), x3, .val (.int 4), x5, x6, x7, x8, x9, x10, x11]) = some [x0, x1, .val (.int 4), .val (.int 4), .val (.tuple [.str "red", .str "red", .str "red", .str "red"]), .val (.tuple [.str "a", .str "b", .str "c", .str "d"])] := by kernel_rfl
theorem B4_5 : okP [0, 1, 2, 4, 8, 9] (gB [x0, x1, .val (.int 5), x3, .val (.int 4), x5, x6, x7, x8, x9, x10, x11]) = some [x0, x1, .val (.int 5), .val (.int 4), .val (.tuple [.str "red", .str "red", .str "red", .str "red"]), .val (.tuple [.str "a", .str "b", .str "c", .str "d"])] := by kernel_rfl
theorem B4_6 : okP [0, 1, 2, 4, 8, 9] (gB [x0, x1, .val (.int 6), x3, .val (.int 4), x5, x6, x7, x8, x9, x10, x11]) = some [x0, x1, .val (.int 6), .val (.int 4), .val (.tuple [.str "red", .str "red", .str "red", .str "red"]), .val (.tuple [.str "a", .str "b", .str "c", .str "d"])] := by kernel_rfl
theorem B4_7 : okP [0, 1, 2, 4, 8, 9] (gB [x0, x1, .val (.int 7), x3, .val (.int 4), x5, x6, x7, x8, x9, x10, x11]) = some [x0, x1, .val (.int 7), .val (.int 4), .val (.tuple [.str "red", .str "red", .str "red", .str "red"]), .val (.tuple [.str "a", .str "b", .str "c", .str "d"])] := by kernel_rfl
theorem B4_8 : okP [0, 1, 2, 4, 8, 9] (gB [x0, x1, .val (.int 8), x3, .val (.int 4), x5, x6, x7, x8, x9, x10, x11]) = some [x0, x1, .val (.int 8), .val (.int 4), .val (.tuple [.str "red", .str "red", .str "red", .str "red"]), .val (.tuple [.str "a", .str "b", .str "c", .str "d"])] := by kernel_rfl
theorem B4_9 : okP [0, 1, 2, 4, 8, 9] (gB [x0, x1, .val (.int 9), x3, .val (.int 4), x5, x6, x7, x8, x9, x10, x11]) = some [x0, x1, .val (.int 9), .val (.int 4), .val (.tuple [.str "red", .str "red", .str "red", .str "red"]), .val (.tuple [.str "a", .str "b", .str "c", .str "d"])] := by kernel_rfl
theorem B4_10 : okP [0, 1, 2, 4, 8, 9] (gB [x0, x1, .val (.int 10), x3, .val (.int 4), x5, x6, x7, x8, x9, x10, x11]) = some [x0, x1, .val (.int 10), .val (.int 4), .val (.tuple [.str "red", .str "red", .str "red", .str "red"]), .val (.tuple [.str "a", .str "b", .str "c", .str "d"])] := by kernel_rfl
theorem B4_11 : okP [0, 1, 2, 4, 8, 9] (gB [x0, x1, .val (.int 11), x3, .val (.int 4), x5, x6, x7, x8, x9, x10, x11]) = some [x0, x1, .val (.int 11), .val (.int 4), .val (.tuple [.str "red", .str "red", .str "red", .str "red"]), .val (.tuple [.str "a", .str "b", .str "c", .str "d"])] := by kernel_rfl
theorem B4_12 : okP [0, 1, 2, 4, 8, 9] (gB [x0, x1, .val (.int 12), x3, .val (.int 4), x5, x6, x7, x8, x9, x10, x11]) = some [x0, x1, .val (.int 12), .val (.int 4), .val (.tuple [.str "red", .str "red", .str "red", .str "red"]), .val (.tuple [.str "a", .str "b", .str "c", .str "d"])] := by kernel_rfl
theorem B4_13 : okP [0, 1, 2, 4, 8, 9] (gB [x0, x1, .val (.int 13), x3, .val (.int 4), x5, x6, x7, x8, x9, x10, x11]) = some [x0, x1, .val (.int 13), .val (.int 4), .val (.tuple [.str "red", .str "red", .str "red", .str "red"]), .val (.tuple [.str "a", .str "b", .str "c", .str "d"])] := by kernel_rfl
theorem B4_14 : okP [0, 1, 2, 4, 8, 9] (gB [x0, x1, .val (.int 14), x3, .val (.int 4), x5, x6, x7, x8, x9, x10, x11]) = some [x0, x1, .val (.int 14), .val (.int 4), .val (.tuple [.str "red", .str "red", .str "red", .str "red"]), .val (.tuple [.str "a", .str "b", .str "c", .str "d"])] := by kernel_rfl
theorem B4_15 : okP [0, 1, 2, 4, 8, 9] (gB [x0, x1, .val (.int 15), x3, .val (.int 4), x5, x6, x7, x8, x9, x10, x11]) = some [x0, x1, .val (.int 15), .val (.int 4), .val (.tuple [.str "red", .str "red", .str "red", .str "red"]), .val (.tuple [.str "a", .str "b", .str "c", .str "d"])] := by kernel_rfl
theorem B4_16 : okP [0, 1, 2, 4, 8, 9] (gB [x0, x1, .val (.int 16), x3, .val (.int 4), x5, x6, x7, x8, x9, x10, x11]) = some [x0, x1, .val (.int 16), .val (.int 4), .val (.tuple [.str "red", .str "red", .str "red", .str "red"]), .val (.tuple [.str "a", .str "b", .str "c", .str "d"])] := by kernel_rfl
theorem B4_17 : okP [0, 1, 2, 4, 8, 9] (gB [x0, x1, .val (.int 17), x3, .val (.int 4), x5, x6, x7, x8, x9, x10, x11]) = some [x0, x1, .val (.int 17), .val (.int 4), .val (.tuple [.str "red", .str "red", .str "red", .str "red"]), .val (.tuple [.str "a", .str "b", .str "c", .str "d"])] := by kernel_rfl
theorem B4_18 : okP [0, 1, 2, 4, 8, 9] (gB [x0, x1, .val (.int 18), x3, .val (.int 4), x5, x6, x7, x8, x9, x10, x11]) = some [x0, x1, .val (.int 18), .val (.int 4), .val (.tuple [.str "red", .str "red", .str "red", .str "red"]), .val (.tuple [.str "a", .str "b", .str "c", .str "d"])] := by kernel_rfl
theorem B4_19 : okP [0, 1, 2, 4, 8, 9] (gB [x0, x1, .val (.int 19), x3, .val (.int 4), x5, x6, x7, x8, x9, x10, x11]) = some [x0, x1, .val (.int 19), .val (.int 4), .val (.tuple [.str "red", .str "red", .str "red", .str "red"]), .val (.tuple [.str "a", .str "b", .str "c", .str "d"])] := by kernel_rfl
theorem B4_20 : okP [0, 1, 2, 4, 8, 9] (gB [x0, x1, .val (.int 20), x3, .val (.int 4), x5, x6, x7, x8, x9, x10, x11]) = some [x0, x1, .val (.int 20), .val (.int 4), .val (.tuple [.str "red", .str "red", .str "red", .str "red"]), .val (.tuple [.str "a", .str "b", .str "c", .str "d"])] := by kernel_rfl
theorem B4 (l : Int) (h : 1 ≤ l ∧ l ≤ 20) : okP [0, 1, 2, 4, 8, 9] (gB [x0, x1, .val (.int l), x3, .val (.int 4), x5, x6, x7, x8, x9, x10, x11]) = some [x0, x1, .val (.int l), .val (.int 4), .val (.tuple [.str "red", .str "red", .str "red", .str "red"]), .val (.tuple [.str "a", .str "b", .str "c", .str "d"])] := by
  have c : l = 1 ∨ l = 2 ∨ l = 3 ∨ l = 4 ∨ l = 5 ∨ l = 6 ∨ l = 7 ∨ l = 8 ∨ l = 9 ∨ l = 10 ∨ l = 11 ∨ l = 12 ∨ l = 13 ∨ l = 14 ∨ l = 15 ∨ l = 16 ∨ l = 17 ∨ l = 18 ∨ l = 19 ∨ l = 20 := by omega
  rcases c with rfl | rfl | rfl | rfl | rfl | rfl | rfl | rfl | rfl | rfl | rfl | rfl | rfl | rfl | rfl | rfl | rfl | rfl | rfl | rfl
  · exact B4_1 _ _ _ _ _ _ _ _ _ _
  · exact B4_2 _ _ _ _ _ _ _ _ _ _
  · exact B4_3 _ _ _ _ _ _ _ _ _ _
  · exact B4_4 _ _ _ _ _ _ _ _ _ _
  · exact B4_5 _ _ _ _ _ _ _ _ _ _
  · exact B4_6 _ _ _ _ _ _ _ _ _ _
  · exact B4_7 _ _ _ _ _ _ _ _ _ _
  · exact B4_8 _ _ _ _ _ _ _ _ _ _
  · exact B4_9 _ _ _ _ _ _ _ _ _ _
  · exact B4_10 _ _ _ _ _ _ _ _ _ _
  · exact B4_11 _ _ _ _ _ _ _ _ _ _
  · exact B4_12 _ _ _ _ _ _ _ _ _ _
  · exact B4_13 _ _ _ _ _ _ _ _ _ _
  · exact B4_14 _ _ _ _ _ _ _ _ _ _
  · exact B4_15 _ _ _ _ _ _ _ _ _ _
  · exact B4_16 _ _ _ _ _ _ _ _ _ _
  · exact B4_17 _ _ _ _ _ _ _ _ _ _
  · exact B4_18 _ _ _ _ _ _ _ _ _ _
  · exact B4_19 _ _ _ _ _ _ _ _ _ _
  · exact B4_20 _ _ _ _ _ _ _ _ _ _
theorem r4 : g_law_3_3 [x0, .val (.list (Ld d)), x2, x3, .val (.int 4), x5, x6, x7, x8, x9, x10, x11] = .nx [x0, .val (.list (Ld d)), x2, x3, .val (.int 4), x5, x6, x7, x8, x9, .val (.int (d 4 % 4)), x11] := by kernel_rfl
theorem S4_0 : okP [0, 1, 2, 4] (g_law_3_4 [x0, x1, x2, x3, .val (.int 4), x5, x6, x7, .val (.tuple [.str "red", .str "red", .str "red", .str "red"]), .val (.tuple [.str "a", .str "b", .str "c", .str "d"]), .val (.int 0), x11]) = some [x0, x1, x2, .val (.int 4)] := by kernel_rfl
theorem S4_1 : okP [0, 1, 2, 4] (g_law_3_4 [x0, x1, x2, x3, .val (.int 4), x5, x6, x7, .val (.tuple [.str "red", .str "red", .str "red", .str "red"]), .val (.tuple [.str "a", .str "b", .str "c", .str "d"]), .val (.int 1), x11]) = some [x0, x1, x2, .val (.int 4)] := by kernel_rfl
theorem S4_2 : okP [0, 1, 2, 4] (g_law_3_4 [x0, x1, x2, x3, .val (.int 4), x5, x6, x7, .val (.tuple [.str "red", .str "red", .str "red", .str "red"]), .val (.tuple [.str "a", .str "b", .str "c", .str "d"]), .val (.int 2), x11]) = some [x0, x1, x2, .val (.int 4)] := by kernel_rfl
theorem S4_3 : okP [0, 1, 2, 4] (g_law_3_4 [x0, x1, x2, x3, .val (.int 4), x5, x6, x7, .val (.tuple [.str "red", .str "red", .str "red", .str "red"]), .val (.tuple [.str "a", .str "b", .str "c", .str "d"]), .val (.int 3), x11]) = some [x0, x1, x2, .val (.int 4)] := by kernel_rfl
theorem S4 (s : Int) (h : 0 ≤ s ∧ s < 4) : okP [0, 1, 2, 4] (g_law_3_4 [x0, x1, x2, x3, .val (.int 4), x5, x6, x7, .val (.tuple [.str "red", .str "red", .str "red", .str "red"]), .val (.tuple [.str "a", .str "b", .str "c", .str "d"]), .val (.int s), x11]) = some [x0, x1, x2, .val (.int 4)] := by
  have c : s = 0 ∨ s = 1 ∨ s = 2 ∨ s = 3 := by omega
  rcases c with rfl | rfl | rfl | rfl
  · exact S4_0 _ _ _ _ _ _ _ _
  · exact S4_1 _ _ _ _ _ _ _ _
  · exact S4_2 _ _ _ _ _ _ _ _
  · exact S4_3 _ _ _ _ _ _ _ _
theorem C4 : okP [0, 1, 2] (gC [x0, x1, x2, x3, .val (.int 4), x5, x6, x7, x8, x9, x10, x11]) = some [x0, x1, x2] := by kernel_rfl
theorem T4 (l : Int) (h : 1 ≤ l ∧ l ≤ 20) : ∃ ρ, gT [x0, .val (.list (Ld d)), .val (.int l), x3, .val (.int 4), x5, x6, x7, x8, x9, x10, x11] = .nx ρ ∧ ρ.length = 12 ∧ [0, 1, 2].map (fun j => ρ.getD j .no) = [x0, .val (.list (Ld d)), .val (.int l)] := by
  rw [gT_eq]
  obtain ⟨ρ1, h1, l1, t1⟩ := okP_of (B4 x0 (.val (.list (Ld d))) x3 x5 x6 x7 x8 x9 x10 x11 l h)
  obtain ⟨y0, y1, y2, y3, y4, y5, y6, y7, y8, y9, y10, y11, rfl⟩ := exp12 l1
  simp only [List.map_cons, List.map_nil, List.getD_cons_zero, List.getD_cons_succ, List.cons.injEq, and_true] at t1
  obtain ⟨rfl, rfl, rfl, rfl, rfl, rfl⟩ := t1
  rw [seq_nx h1, seq_nx (r4 y0 (.val (.int l)) _ _ _ _ _ _ _ _ d)]
  obtain ⟨ρ2, h2, l2, t2⟩ := okP_of (S4 y0 (.val (.list (Ld d))) (.val (.int l)) y3 y5 y6 y7 y11 (d 4 % 4) (by omega))
  obtain ⟨z0, z1, z2, z3, z4, z5, z6, z7, z8, z9, z10, z11, rfl⟩ := exp12 l2
  simp only [List.map_cons, List.map_nil, List.getD_cons_zero, List.getD_cons_succ, List.cons.injEq, and_true] at t2
  obtain ⟨rfl, rfl, rfl, rfl⟩ := t2
  rw [seq_nx h2]
  exact okP_of (C4 _ _ _ _ _ _ _ _ _ _ _)
theorem B5_1 : okP [0, 1, 2, 4, 8, 9] (gB [x0, x1, .val (.int 1), x3, .val (.int 5), x5, x6, x7, x8, x9, x10, x11]) = some [x0, x1, .val (.int 1), .val (.int 5), .val (.tuple [.str "red", .str "red", .str "red", .str "red", .str "red"]), .val (.tuple [.str "a", .str "b", .str "c", .str "d", .str "e"])] := by kernel_rfl
theorem B5_2 : okP [0, 1, 2, 4, 8, 9] (gB [x0, x1, .val (.int 2), x3, .val (.int 5), x5, x6, x7, x8, x9, x10, x11]) = some [x0, x1, .val (.int 2), .val (.int 5), .val (.tuple [.str "red", .str "red", .str "red", .str "red", .str "red"]), .val (.tuple [.str "a", .str "b", .str "c", .str "d", .str "e"])] := by kernel_rfl
theorem B5_3 : okP [0, 1, 2, 4, 8, 9] (gB [x0, x1, .val (.int 3), x3, .val (.int 5), x5, x6, x7, x8, x9, x10, x11]) = some [x0, x1, .val (.int 3), .val (.int 5), .val (.tuple [.str "red", .str "red", .str "red", .str "red", .str "red"]), .val (.tuple [.str "a", .str "b", .str "c", .str "d", .str "e"])] := by kernel_rfl
theorem B5_4 : okP [0, 1, 2, 4, 8, 9] (gB [x0, x1, .val (.int 4), x3, .val (.int 5), x5, x6, x7, x8, x9, x10, x11]) = some [x0, x1, .val (.int 4), .val (.int 5), .val (.tuple [.str "red", .str "red", .str "red", .str "red", .str "red"]), .val (.tuple [.str "a", .str "b", .str "c", .str "d", .str "e"])] := by kernel_rfl
theorem B5_5 : okP [0, 1, 2, 4, 8, 9] (gB [x0, x1, .val (.int 5), x3, .val (.int 5), x5, x6, x7, x8, x9, x10, x11]) = some [x0, x1, .val (.int 5), .val (.int 5), .val (.tuple [.str "red", .str "red", .str "red", .str "red", .str "red"]), .val (.tuple [.str "a", .str "b", .str "c", .str "d", .str "e"])] := by kernel_rfl
theorem B5_6 : okP [0, 1, 2, 4, 8, 9] (gB [x0, x1, .val (.int 6), x3, .val (.int 5), x5, x6, x7, x8, x9, x10, x11]) = some [x0, x1, .val (.int 6), .val (.int 5), .val (.tuple [.str "red", .str "red", .str "red", .str "red", .str "red"]), .val (.tuple [.str "a", .str "b", .str "c", .str "d", .str "e"])] := by kernel_rfl
theorem B5_7 : okP [0, 1, 2, 4, 8, 9] (gB [x0, x1, .val (.int 7), x3, .val (.int 5), x5, x6, x7, x8, x9, x10, x11]) = some [x0, x1, .val (.int 7), .val (.int 5), .val (.tuple [.str "red", .str "red", .str "red", .str "red", .str "red"]), .val (.tuple [.str "a", .str "b", .str "c", .str "d", .str "e"])] := by kernel_rfl
theorem B5_8 : okP [0, 1, 2, 4, 8, 9] (gB [x0, x1, .val (.int 8), x3, .val (.int 5), x5, x6, x7, x8, x9, x10, x11]) = some [x0, x1, .val (.int 8), .val (.int 5), .val (.tuple [.str "red", .str "red", .str "red", .str "red", .str "red"]), .val (.tuple [.str "a", .str "b", .str "c", .str "d", .str "e"])] := by kernel_rfl
theorem B5_9 : okP [0, 1, 2, 4, 8, 9] (gB [x0, x1, .val (.int 9), x3, .val (.int 5), x5, x6, x7, x8, x9, x10, x11]) = some [x0, x1, .val (.int 9), .val (.int 5), .val (.tuple [.str "red", .str "red", .str "red", .str "red", .str "red"]), .val (.tuple [.str "a", .str "b", .str "c", .str "d", .str "e"])] := by kernel_rfl
theorem B5_10 : okP [0, 1, 2, 4, 8, 9] (gB [x0, x1, .val (.int 10), x3, .val (.int 5), x5, x6, x7, x8, x9, x10, x11]) = some [x0, x1, .val (.int 10), .val (.int 5), .val (.tuple [.str "red", .str "red", .str "red", .str "red", .str "red"]), .val (.tuple [.str "a", .str "b", .str "c", .str "d", .str "e"])] := by kernel_rfl
theorem B5_11 : okP [0, 1, 2, 4, 8, 9] (gB [x0, x1, .val (.int 11), x3, .val (.int 5), x5, x6, x7, x8, x9, x10, x11]) = some [x0, x1, .val (.int 11), .val (.int 5), .val (.tuple [.str "red", .str "red", .str "red", .str "red", .str "red"]), .val (.tuple [.str "a", .str "b", .str "c", .str "d", .str "e"])] := by kernel_rfl
theorem B5_12 : okP [0, 1, 2, 4, 8, 9] (gB [x0, x1, .val (.int 12), x3, .val (.int 5), x5, x6, x7, x8, x9, x10, x11]) = some [x0, x1, .val (.int 12), .val (.int 5), .val (.tuple [.str "red", .str "red", .str "red", .str "red", .str "red"]), .val (.tuple [.str "a", .str "b", .str "c", .str "d", .str "e"])] := by kernel_rfl
theorem B5_13 : okP [0, 1, 2, 4, 8, 9] (gB [x0, x1, .val (.int 13), x3, .val (.int 5), x5, x6, x7, x8, x9, x10, x11]) = some [x0, x1, .val (.int 13), .val (.int 5), .val (.tuple [.str "red", .str "red", .str "red", .str "red", .str "red"]), .val (.tuple [.str "a", .str "b", .str "c", .str "d", .str "e"])] := by kernel_rfl
theorem B5_14 : okP [0, 1, 2, 4, 8, 9] (gB [x0, x1, .val (.int 14), x3, .val (.int 5), x5, x6, x7, x8, x9, x10, x11]) = some [x0, x1, .val (.int 14), .val (.int 5), .val (.tuple [.str "red", .str "red", .str "red", .str "red", .str "red"]), .val (.tuple [.str "a", .str "b", .str "c", .str "d", .str "e"])] := by kernel_rfl
theorem B5_15 : okP [0, 1, 2, 4, 8, 9] (gB [x0, x1, .val (.int 15), x3, .val (.int 5), x5, x6, x7, x8, x9, x10, x11]) = some [x0, x1, .val (.int 15), .val (.int 5), .val (.tuple [.str "red", .str "red", .str "red", .str "red", .str "red"]), .val (.tuple [.str "a", .str "b", .str "c", .str "d", .str "e"])] := by kernel_rfl
theorem B5_16 : okP [0, 1, 2, 4, 8, 9] (gB [x0, x1, .val (.int 16), x3, .val (.int 5), x5, x6, x7, x8, x9, x10, x11]) = some [x0, x1, .val (.int 16), .val (.int 5), .val (.tuple [.str "red", .str "red", .str "red", .str "red", .str "red"]), .val (.tuple [.str "a", .str "b", .str "c", .str "d", .str "e"])] := by kernel_rfl
theorem B5_17 : okP [0, 1, 2, 4, 8, 9] (gB [x0, x1, .val (.int 17), x3, .val (.int 5), x5, x6, x7, x8, x9, x10, x11]) = some [x0, x1, .val (.int 17), .val (.int 5), .val (.tuple [.str "red", .str "red", .str "red", .str "red", .str "red"]), .val (.tuple [.str "a", .str "b", .str "c", .str "d", .str "e"])] := by kernel_rfl
theorem B5_18 : okP [0, 1, 2, 4, 8, 9] (gB [x0, x1, .val (.int 18), x3, .val (.int 5), x5, x6, x7, x8, x9, x10, x11]) = some [x0, x1, .val (.int 18), .val (.int 5), .val (.tuple [.str "red", .str "red", .str "red", .str "red", .str "red"]), .val (.tuple [.str "a", .str "b", .str "c", .str "d", .str "e"])] := by kernel_rfl
theorem B5_19 : okP [0, 1, 2, 4, 8, 9] (gB [x0, x1, .val (.int 19), x3, .val (.int 5), x5, x6, x7, x8, x9, x10, x11]) = some [x0, x1, .val (.int 19), .val (.int 5), .val (.tuple [.str "red", .str "red", .str "red", .str "red", .str "red"]), .val (.tuple [.str "a", .str "b", .str "c", .str "d", .str "e"])] := by kernel_rfl
theorem B5_20 : okP [0, 1, 2, 4, 8, 9] (gB [x0, x1, .val (.int 20), x3, .val (.int 5), x5, x6, x7, x8, x9, x10, x11]) = some [x0, x1, .val (.int 20), .val (.int 5), .val (.tuple [.str "red", .str "red", .str "red", .str "red", .str "red"]), .val (.tuple [.str "a", .str "b", .str "c", .str "d", .str "e"])] := by kernel_rfl
theorem B5 (l : Int) (h : 1 ≤ l ∧ l ≤ 20) : okP [0, 1, 2, 4, 8, 9] (gB [x0, x1, .val (.int l), x3, .val (.int 5), x5, x6, x7, x8, x9, x10, x11]) = some [x0, x1, .val (.int l), .val (.int 5), .val (.tuple [.str "red", .str "red", .str "red", .str "red", .str "red"]), .val (.tuple [.str "a", .str "b", .str "c", .str "d", .str "e"])] := by
  have c : l = 1 ∨ l = 2 ∨ l = 3 ∨ l = 4 ∨ l = 5 ∨ l = 6 ∨ l = 7 ∨ l = 8 ∨ l = 9 ∨ l = 10 ∨ l = 11 ∨ l = 12 ∨ l = 13 ∨ l = 14 ∨ l = 15 ∨ l = 16 ∨ l = 17 ∨ l = 18 ∨ l = 19 ∨ l = 20 := by omega
  rcases c with rfl | rfl | rfl | rfl | rfl | rfl | rfl | rfl | rfl | rfl | rfl | rfl | rfl | rfl | rfl | rfl | rfl | rfl | rfl | rfl
  · exact B5_1 _ _ _ _ _ _ _ _ _ _
  · exact B5_2 _ _ _ _ _ _ _ _ _ _
  · exact B5_3 _ _ _ _ _ _ _ _ _ _
  · exact B5_4 _ _ _ _ _ _ _ _ _ _
  · exact B5_5 _ _ _ _ _ _ _ _ _ _
  · exact B5_6 _ _ _ _ _ _ _ _ _ _
  · exact B5_7 _ _ _ _ _ _ _ _ _ _
  · exact B5_8 _ _ _ _ _ _ _ _ _ _
  · exact B5_9 _ _ _ _ _ _ _ _ _ _
  · exact B5_10 _ _ _ _ _ _ _ _ _ _
  · exact B5_11 _ _ _ _ _ _ _ _ _ _
  · exact B5_12 _ _ _ _ _ _ _ _ _ _
  · exact B5_13 _ _ _ _ _ _ _ _ _ _
  · exact B5_14 _ _ _ _ _ _ _ _ _ _
  · exact B5_15 _ _ _ _ _ _ _ _ _ _
  · exact B5_16 _ _ _ _ _ _ _ _ _ _
  · exact B5_17 _ _ _ _ _ _ _ _ _ _
  · exact B5_18 _ _ _ _ _ _ _ _ _ _
  · exact B5_19 _ _ _ _ _ _ _ _ _ _
  · exact B5_20 _ _ _ _ _ _ _ _ _ _
theorem r5 : g_law_3_3 [x0, .val (.list (Ld d)), x2, x3, .val (.int 5), x5, x6, x7, x8, x9, x10, x11] = .nx [x0, .val (.list (Ld d)), x2, x3, .val (.int 5), x5, x6, x7, x8, x9, .val (.int (d 5 % 5)), x11] := by kernel_rfl
theorem S5_0 : okP [0, 1, 2, 4] (g_law_3_4 [x0, x1, x2, x3, .val (.int 5), x5, x6, x7, .val (.tuple [.str "red", .str "red", .str "red", .str "red", .str "red"]), .val (.tuple [.str "a", .str "b", .str "c", .str "d", .str "e"]), .val (.int 0), x11]) = some [x0, x1, x2, .val (.int 5)] := by kernel_rfl
theorem S5_1 : okP [0, 1, 2, 4] (g_law_3_4 [x0, x1, x2, x3, .val (.int 5), x5, x6, x7, .val (.tuple [.str "red", .str "red", .str "red", .str "red", .str "red"]), .val (.tuple [.str "a", .str "b", .str "c", .str "d", .str "e"]), .val (.int 1), x11]) = some [x0, x1, x2, .val (.int 5)] := by kernel_rfl
theorem S5_2 : okP [0, 1, 2, 4] (g_law_3_4 [x0, x1, x2, x3, .val (.int 5), x5, x6, x7, .val (.tuple [.str "red", .str "red", .str "red", .str "red", .str "red"]), .val (.tuple [.str "a", .str "b", .str "c", .str "d", .str "e"]), .val (.int 2), x11]) = some [x0, x1, x2, .val (.int 5)] := by kernel_rfl
theorem S5_3 : okP [0, 1, 2, 4] (g_law_3_4 [x0, x1, x2, x3, .val (.int 5), x5, x6, x7, .val (.tuple [.str "red", .str "red", .str "red", .str "red", .str "red"]), .val (.tuple [.str "a", .str "b", .str "c", .str "d", .str "e"]), .val (.int 3), x11]) = some [x0, x1, x2, .val (.int 5)] := by kernel_rfl
theorem S5_4 : okP [0, 1, 2, 4] (g_law_3_4 [x0, x1, x2, x3, .val (.int 5), x5, x6, x7, .val (.tuple [.str "red", .str "red", .str "red", .str "red", .str "red"]), .val (.tuple [.str "a", .str "b", .str "c", .str "d", .str "e"]), .val (.int 4), x11]) = some [x0, x1, x2, .val (.int 5)] := by kernel_rfl
theorem S5 (s : Int) (h : 0 ≤ s ∧ s < 5) : okP [0, 1, 2, 4] (g_law_3_4 [x0, x1, x2, x3, .val (.int 5), x5, x6, x7, .val (.tuple [.str "red", .str "red", .str "red", .str "red", .str "red"]), .val (.tuple [.str "a", .str "b", .str "c", .str "d", .str "e"]), .val (.int s), x11]) = some [x0, x1, x2, .val (.int 5)] := by
  have c : s = 0 ∨ s = 1 ∨ s = 2 ∨ s = 3 ∨ s = 4 := by omega
  rcases c with rfl | rfl | rfl | rfl | rfl
  · exact S5_0 _ _ _ _ _ _ _ _
  · exact S5_1 _ _ _ _ _ _ _ _
  · exact S5_2 _ _ _ _ _ _ _ _
  · exact S5_3 _ _ _ _ _ _ _ _
  · exact S5_4 _ _ _ _ _ _ _ _
theorem C5 : okP [0, 1, 2] (gC [x0, x1, x2, x3, .val (.int 5), x5, x6, x7, x8, x9, x10, x11]) = some [x0, x1, x2] := by kernel_rfl
theorem T5 (l : Int) (h : 1 ≤ l ∧ l ≤ 20) : ∃ ρ, gT [x0, .val (.list (Ld d)), .val (.int l), x3, .val (.int 5), x5, x6, x7, x8, x9, x10, x11] = .nx ρ ∧ ρ.length = 12 ∧ [0, 1, 2].map (fun j => ρ.getD j .no) = [x0, .val (.list (Ld d)), .val (.int l)] := by
  rw [gT_eq]
  obtain ⟨ρ1, h1, l1, t1⟩ := okP_of (B5 x0 (.val (.list (Ld d))) x3 x5 x6 x7 x8 x9 x10 x11 l h)
  obtain ⟨y0, y1, y2, y3, y4, y5, y6, y7, y8, y9, y10, y11, rfl⟩ := exp12 l1
  simp only [List.map_cons, List.map_nil, List.getD_cons_zero, List.getD_cons_succ, List.cons.injEq, and_true] at t1
  obtain ⟨rfl, rfl, rfl, rfl, rfl, rfl⟩ := t1
  rw [seq_nx h1, seq_nx (r5 y0 (.val (.int l)) _ _ _ _ _ _ _ _ d)]
  obtain ⟨ρ2, h2, l2, t2⟩ := okP_of (S5 y0 (.val (.list (Ld d))) (.val (.int l)) y3 y5 y6 y7 y11 (d 5 % 5) (by omega))
  obtain ⟨z0, z1, z2, z3, z4, z5, z6, z7, z8, z9, z10, z11, rfl⟩ := exp12 l2
  simp only [List.map_cons, List.map_nil, List.getD_cons_zero, List.getD_cons_succ, List.cons.injEq, and_true] at t2
  obtain ⟨rfl, rfl, rfl, rfl⟩ := t2
  rw [seq_nx h2]
  exact okP_of (C5 _ _ _ _ _ _ _ _ _ _ _)
theorem B6_1 : okP [0, 1, 2, 4, 8, 9] (gB [x0, x1, .val (.int 1), x3, .val (.int 6), x5, x6, x7, x8, x9, x10, x11]) = some [x0, x1, .val (.int 1), .val (.int 6), .val (.tuple [.str "red", .str "red", .str "red", .str "red", .str "red", .str "red"]), .val (.tuple [.str "a", .str "b", .str "c", .str "d", .str "e", .str "f"])] := by kernel_rfl
theorem B6_2 : okP [0, 1, 2, 4, 8, 9] (gB [x0, x1, .val (.int 2), x3, .val (.int 6), x5, x6, x7, x8, x9, x10, x11]) = some [x0, x1, .val (.int 2), .val (.int 6), .val (.tuple [.str "red", .str "red", .str "red", .str "red", .str "red", .str "red"]), .val (.tuple [.str "a", .str "b", .str "c", .str "d", .str "e", .str "f"])] := by kernel_rfl
theorem B6_3 : okP [0, 1, 2, 4, 8, 9] (gB [x0, x1, .val (.int 3), x3, .val (.int 6), x5, x6, x7, x8, x9, x10, x11]) = some [x0, x1, .val (.int 3), .val (.int 6), .val (.tuple [.str "red", .str "red", .str "red", .str "red", .str "red", .str "red"]), .val (.tuple [.str "a", .str "b", .str "c", .str "d", .str "e", .str "f"])] := by kernel_rfl
theorem B6_4 : okP [0, 1, 2, 4, 8, 9] (gB [x0, x1, .val (.int 4), x3, .val (.int 6), x5, x6, x7, x8, x9, x10, x11]) = some [x0, x1, .val (.int 4), .val (.int 6), .val (.tuple [.str "red", .str "red", .str "red", .str "red", .str "red", .str "red"]), .val (.tuple [.str "a", .str "b", .str "c", .str "d", .str "e", .str "f"])] := by kernel_rfl
theorem B6_5 : okP [0, 1, 2, 4, 8, 9] (gB [x0, x1, .val (.int 5), x3, .val (.int 6), x5, x6, x7, x8, x9, x10, x11]) = some [x0, x1, .val (.int 5), .val (.int 6), .val (.tuple [.str "red", .str "red", .str "red", .str "red", .str "red", .str "red"]), .val (.tuple [.str "a", .str "b", .str "c", .str "d", .str "e", .str "f"])] := by kernel_rfl
theorem B6_6 : okP [0, 1, 2, 4, 8, 9] (gB [x0, x1, .val (.int 6), x3, .val (.int 6), x5, x6, x7, x8, x9, x10, x11]) = some [x0, x1, .val (.int 6), .val (.int 6), .val (.tuple [.str "red", .str "red", .str "red", .str "red", .str "red", .str "red"]), .val (.tuple [.str "a", .str "b", .str "c", .str "d", .str "e", .str "f"])] := by kernel_rfl
theorem B6_7 : okP [0, 1, 2, 4, 8, 9] (gB [x0, x1, .val (.int 7), x3, .val (.int 6), x5, x6, x7, x8, x9, x10, x11]) = some [x0, x1, .val (.int 7), .val (.int 6), .val (.tuple [.str "red", .str "red", .str "red", .str "red", .str "red", .str "red"]), .val (.tuple [.str "a", .str "b", .str "c", .str "d", .str "e", .str "f"])] := by kernel_rfl
theorem B6_8 : okP [0, 1, 2, 4, 8, 9] (gB [x0, x1, .val (.int 8), x3, .val (.int 6), x5, x6, x7, x8, x9, x10, x11]) = some [x0, x1, .val (.int 8), .val (.int 6), .val (.tuple [.str "red", .str "red", .str "red", .str "red", .str "red", .str "red"]), .val (.tuple [.str "a", .str "b", .str "c", .str "d", .str "e", .str "f"])] := by kernel_rfl
theorem B6_9 : okP [0, 1, 2, 4, 8, 9] (gB [x0, x1, .val (.int 9), x3, .val (.int 6), x5, x6, x7, x8, x9, x10, x11]) = some [x0, x1, .val (.int 9), .val (.int 6), .val (.tuple [.str "red", .str "red", .str "red", .str "red", .str "red", .str "red"]), .val (.tuple [.str "a", .str "b", .str "c", .str "d", .str "e", .str "f"])] := by kernel_rfl
theorem B6_10 : okP [0, 1, 2, 4, 8, 9] (gB [x0, x1, .val (.int 10), x3, .val (.int 6), x5, x6, x7, x8, x9, x10, x11]) = some [x0, x1, .val (.int 10), .val (.int 6), .val (.tuple [.str "red", .str "red", .str "red", .str "red", .str "red", .str "red"]), .val (.tuple [.str "a", .str "b", .str "c", .str "d", .str "e", .str "f"])] := by kernel_rfl
theorem B6_11 : okP [0, 1, 2, 4, 8, 9] (gB [x0, x1, .val (.int 11), x3, .val (.int 6), x5, x6, x7, x8, x9, x10, x11]) = some [x0, x1, .val (.int 11), .val (.int 6), .val (.tuple [.str "red", .str "red", .str "red", .str "red", .str "red", .str "red"]), .val (.tuple [.str "a", .str "b", .str "c", .str "d", .str "e", .str "f"])] := by kernel_rfl
theorem B6_12 : okP [0, 1, 2, 4, 8, 9] (gB [x0, x1, .val (.int 12), x3, .val (.int 6), x5, x6, x7, x8, x9, x10, x11]) = some [x0, x1, .val (.int 12), .val (.int 6), .val (.tuple [.str "red", .str "red", .str "red", .str "red", .str "red", .str "red"]), .val (.tuple [.str "a", .str "b", .str "c", .str "d", .str "e", .str "f"])] := by kernel_rfl
theorem B6_13 : okP [0, 1, 2, 4, 8, 9] (gB [x0, x1, .val (.int 13), x3, .val (.int 6), x5, x6, x7, x8, x9, x10, x11]) = some [x0, x1, .val (.int 13), .val (.int 6), .val (.tuple [.str "red", .str "red", .str "red", .str "red", .str "red", .str "red"]), .val (.tuple [.str "a", .str "b", .str "c", .str "d", .str "e", .str "f"])] := by kernel_rfl
theorem B6_14 : okP [0, 1, 2, 4, 8, 9] (gB [x0, x1, .val (.int 14), x3, .val (.int 6), x5, x6, x7, x8, x9, x10, x11]) = some [x0, x1, .val (.int 14), .val (.int 6), .val (.tuple [.str "red", .str "red", .str "red", .str "red", .str "red", .str "red"]), .val (.tuple [.str "a", .str "b", .str "c", .str "d", .str "e", .str "f"])] := by kernel_rfl
theorem B6_15 : okP [0, 1, 2, 4, 8, 9] (gB [x0, x1, .val (.int 15), x3, .val (.int 6), x5, x6, x7, x8, x9, x10, x11]) = some [x0, x1, .val (.int 15), .val (.int 6), .val (.tuple [.str "red", .str "red", .str "red", .str "red", .str "red", .str "red"]), .val (.tuple [.str "a", .str "b", .str "c", .str "d", .str "e", .str "f"])] := by kernel_rfl
theorem B6_16 : okP [0, 1, 2, 4, 8, 9] (gB [x0, x1, .val (.int 16), x3, .val (.int 6), x5, x6, x7, x8, x9, x10, x11]) = some [x0, x1, .val (.int 16), .val (.int 6), .val (.tuple [.str "red", .str "red", .str "red", .str "red", .str "red", .str "red"]), .val (.tuple [.str "a", .str "b", .str "c", .str "d", .str "e", .str "f"])] := by kernel_rfl
theorem B6_17 : okP [0, 1, 2, 4, 8, 9] (gB [x0, x1, .val (.int 17), x3, .val (.int 6), x5, x6, x7, x8, x9, x10, x11]) = some [x0, x1, .val (.int 17), .val (.int 6), .val (.tuple [.str "red", .str "red", .str "red", .str "red", .str "red", .str "red"]), .val (.tuple [.str "a", .str "b", .str "c", .str "d", .str "e", .str "f"])] := by kernel_rfl
theorem B6_18 : okP [0, 1, 2, 4, 8, 9] (gB [x0, x1, .val (.int 18), x3, .val (.int 6), x5, x6, x7, x8, x9, x10, x11]) = some [x0, x1, .val (.int 18), .val (.int 6), .val (.tuple [.str "red", .str "red", .str "red", .str "red", .str "red", .str "red"]), .val (.tuple [.str "a", .str "b", .str "c", .str "d", .str "e", .str "f"])] := by kernel_rfl
theorem B6_19 : okP [0, 1, 2, 4, 8, 9] (gB [x0, x1, .val (.int 19), x3, .val (.int 6), x5, x6, x7, x8, x9, x10, x11]) = some [x0, x1, .val (.int 19), .val (.int 6), .val (.tuple [.str "red", .str "red", .str "red", .str "red", .str "red", .str "red"]), .val (.tuple [.str "a", .str "b", .str "c", .str "d", .str "e", .str "f"])] := by kernel_rfl
theorem B6_20 : okP [0, 1, 2, 4, 8, 9] (gB [x0, x1, .val (.int 20), x3, .val (.int 6), x5, x6, x7, x8, x9, x10, x11]) = some [x0, x1, .val (.int 20), .val (.int 6), .val (.tuple [.str "red", .str "red", .str "red", .str "red", .str "red", .str "red"]), .val (.tuple [.str "a", .str "b", .str "c", .str "d", .str "e", .str "f"])] := by kernel_rfl
theorem B6 (l : Int) (h : 1 ≤ l ∧ l ≤ 20) : okP [0, 1, 2, 4, 8, 9] (gB [x0, x1, .val (.int l), x3, .val (.int 6), x5, x6, x7, x8, x9, x10, x11]) = some [x0, x1, .val (.int l), .val (.int 6), .val (.tuple [.str "red", .str "red", .str "red", .str "red", .str "red", .str "red"]), .val (.tuple [.str "a", .str "b", .str "c", .str "d", .str "e", .str "f"])] := by
  have c : l = 1 ∨ l = 2 ∨ l = 3 ∨ l = 4 ∨ l = 5 ∨ l = 6 ∨ l = 7 ∨ l = 8 ∨ l = 9 ∨ l = 10 ∨ l = 11 ∨ l = 12 ∨ l = 13 ∨ l = 14 ∨ l = 15 ∨ l = 16 ∨ l = 17 ∨ l = 18 ∨ l = 19 ∨ l = 20 := by omega
  rcases c with rfl | rfl | rfl | rfl | rfl | rfl | rfl | rfl | rfl | rfl | rfl | rfl | rfl | rfl | rfl | rfl | rfl | rfl | rfl | rfl
  · exact B6_1 _ _ _ _ _ _ _ _ _ _
  · exact B6_2 _ _ _ _ _ _ _ _ _ _
  · exact B6_3 _ _ _ _ _ _ _ _ _ _
  · exact B6_4 _ _ _ _ _ _ _ _ _ _
  · exact B6_5 _ _ _ _ _ _ _ _ _ _
  · exact B6_6 _ _ _ _ _ _ _ _ _ _
  · exact B6_7 _ _ _ _ _ _ _ _ _ _
  · exact B6_8 _ _ _ _ _ _ _ _ _ _
  · exact B6_9 _ _ _ _ _ _ _ _ _ _
  · exact B6_10 _ _ _ _ _ _ _ _ _ _
  · exact B6_11 _ _ _ _ _ _ _ _ _ _
  · exact B6_12 _ _ _ _ _ _ _ _ _ _
  · exact B6_13 _ _ _ _ _ _ _ _ _ _
  · exact B6_14 _ _ _ _ _ _ _ _ _ _
  · exact B6_15 _ _ _ _ _ _ _ _ _ _
  · exact B6_16 _ _ _ _ _ _ _ _ _ _
  · exact B6_17 _ _ _ _ _ _ _ _ _ _
  · exact B6_18 _ _ _ _ _ _ _ _ _ _
  · exact B6_19 _ _ _ _ _ _ _ _ _ _
  · exact B6_20 _ _ _ _ _ _ _ _ _ _
theorem r6 : g_law_3_3 [x0, .val (.list (Ld d)), x2, x3, .val (.int 6), x5, x6, x7, x8, x9, x10, x11] = .nx [x0, .val (.list (Ld d)), x2, x3, .val (.int 6), x5, x6, x7, x8, x9, .val (.int (d 6 % 6)), x11] := by kernel_rfl
theorem S6_0 : okP [0, 1, 2, 4] (g_law_3_4 [x0, x1, x2, x3, .val (.int 6), x5, x6, x7, .val (.tuple [.str "red", .str "red", .str "red", .str "red", .str "red", .str "red"]), .val (.tuple [.str "a", .str "b", .str "c", .str "d", .str "e", .str "f"]), .val (.int 0), x11]) = some [x0, x1, x2, .val (.int 6)] := by kernel_rfl
theorem S6_1 : okP [0, 1, 2, 4] (g_law_3_4 [x0, x1, x2, x3, .val (.int 6), x5, x6, x7, .val (.tuple [.str "red", .str "red", .str "red", .str "red", .str "red", .str "red"]), .val (.tuple [.str "a", .str "b", .str "c", .str "d", .str "e", .str "f"]), .val (.int 1), x11]) = some [x0, x1, x2, .val (.int 6)] := by kernel_rfl
theorem S6_2 : okP [0, 1, 2, 4] (g_law_3_4 [x0, x1, x2, x3, .val (.int 6), x5, x6, x7, .val (.tuple [.str "red", .str "red", .str "red", .str "red", .str "red", .str "red"]), .val (.tuple [.str "a", .str "b", .str "c", .str "d", .str "e", .str "f"]), .val (.int 2), x11]) = some [x0, x1, x2, .val (.int 6)] := by kernel_rfl
theorem S6_3 : okP [0, 1, 2, 4] (g_law_3_4 [x0, x1, x2, x3, .val (.int 6), x5, x6, x7, .val (.tuple [.str "red", .str "red", .str "red", .str "red", .str "red", .str "red"]), .val (.tuple [.str "a", .str "b", .str "c", .str "d", .str "e", .str "f"]), .val (.int 3), x11]) = some [x0, x1, x2, .val (.int 6)] := by kernel_rfl
theorem S6_4 : okP [0, 1, 2, 4] (g_law_3_4 [x0, x1, x2, x3, .val (.int 6), x5, x6, x7, .val (.tuple [.str "red", .str "red", .str "red", .str "red", .str "red", .str "red"]), .val (.tuple [.str "a", .str "b", .str "c", .str "d", .str "e", .str "f"]), .val (.int 4), x11]) = some [x0, x1, x2, .val (.int 6)] := by kernel_rfl
theorem S6_5 : okP [0, 1, 2, 4] (g_law_3_4 [x0, x1, x2, x3, .val (.int 6), x5, x6, x7, .val (.tuple [.str "red", .str "red", .str "red", .str "red", .str "red", .str "red"]), .val (.tuple [.str "a", .str "b", .str "c", .str "d", .str "e", .str "f"]), .val (.int 5), x11]) = some [x0, x1, x2, .val (.int 6)] := by kernel_rfl
theorem S6 (s : Int) (h : 0 ≤ s ∧ s < 6) : okP [0, 1, 2, 4] (g_law_3_4 [x0, x1, x2, x3, .val (.int 6), x5, x6, x7, .val (.tuple [.str "red", .str "red", .str "red", .str "red", .str "red", .str "red"]), .val (.tuple [.str "a", .str "b", .str "c", .str "d", .str "e", .str "f"]), .val (.int s), x11]) = some [x0, x1, x2, .val (.int 6)] := by
  have c : s = 0 ∨ s = 1 ∨ s = 2 ∨ s = 3 ∨ s = 4 ∨ s = 5 := by omega
  rcases c with rfl | rfl | rfl | rfl | rfl | rfl
  · exact S6_0 _ _ _ _ _ _ _ _
  · exact S6_1 _ _ _ _ _ _ _ _
  · exact S6_2 _ _ _ _ _ _ _ _
  · exact S6_3 _ _ _ _ _ _ _ _
  · exact S6_4 _ _ _ _ _ _ _ _
  · exact S6_5 _ _ _ _ _ _ _ _
theorem C6 : okP [0, 1, 2] (gC [x0, x1, x2, x3, .val (.int 6), x5, x6, x7, x8, x9, x10, x11]) = some [x0, x1, x2] := by kernel_rfl
theorem T6 (l : Int) (h : 1 ≤ l ∧ l ≤ 20) : ∃ ρ, gT [x0, .val (.list (Ld d)), .val (.int l), x3, .val (.int 6), x5, x6, x7, x8, x9, x10, x11] = .nx ρ ∧ ρ.length = 12 ∧ [0, 1, 2].map (fun j => ρ.getD j .no) = [x0, .val (.list (Ld d)), .val (.int l)] := by
  rw [gT_eq]
  obtain ⟨ρ1, h1, l1, t1⟩ := okP_of (B6 x0 (.val (.list (Ld d))) x3 x5 x6 x7 x8 x9 x10 x11 l h)
  obtain ⟨y0, y1, y2, y3, y4, y5, y6, y7, y8, y9, y10, y11, rfl⟩ := exp12 l1
  simp only [List.map_cons, List.map_nil, List.getD_cons_zero, List.getD_cons_succ, List.cons.injEq, and_true] at t1
  obtain ⟨rfl, rfl, rfl, rfl, rfl, rfl⟩ := t1
  rw [seq_nx h1, seq_nx (r6 y0 (.val (.int l)) _ _ _ _ _ _ _ _ d)]
  obtain ⟨ρ2, h2, l2, t2⟩ := okP_of (S6 y0 (.val (.list (Ld d))) (.val (.int l)) y3 y5 y6 y7 y11 (d 6 % 6) (by omega))
  obtain ⟨z0, z1, z2, z3, z4, z5, z6, z7, z8, z9, z10, z11, rfl⟩ := exp12 l2
  simp only [List.map_cons, List.map_nil, List.getD_cons_zero, List.getD_cons_succ, List.cons.injEq, and_true] at t2
  obtain ⟨rfl, rfl, rfl, rfl⟩ := t2
  rw [seq_nx h2]
  exact okP_of (C6 _ _ _ _ _ _ _ _ _ _ _)
theorem B7_1 : okP [0, 1, 2, 4, 8, 9] (gB [x0, x1, .val (.int 1), x3, .val (.int 7), x5, x6, x7, x8, x9, x10, x11]) = some [x0, x1, .val (.int 1), .val (.int 7), .val (.tuple [.str "red", .str "red", .str "red", .str "red", .str "red", .str "red", .str "red"]), .val (.tuple [.str "a", .str "b", .str "c", .str "d", .str "e", .str "f", .str "g"])] := by kernel_rfl
theorem B7_2 : okP [0, 1, 2, 4, 8, 9] (gB [x0, x1, .val (.int 2), x3, .val (.int 7), x5, x6, x7, x8, x9, x10, x11]) = some [x0, x1, .val (.int 2), .val (.int 7), .val (.tuple [.str "red", .str "red", .str "red", .str "red", .str "red", .str "red", .str "red"]), .val (.tuple [.str "a", .str "b", .str "c", .str "d", .str "e", .str "f", .str "g"])] := by kernel_rfl
theorem B7_3 : okP [0, 1, 2, 4, 8, 9] (gB [x0, x1, .val (.int 3), x3, .val (.int 7), x5, x6, x7, x8, x9, x10, x11]) = some [x0, x1, .val (.int 3), .val (.int 7), .val (.tuple [.str "red", .str "red", .str "red", .str "red", .str "red", .str "red", .str "red"]), .val (.tuple [.str "a", .str "b", .str "c", .str "d", .str "e", .str "f", .str "g"])] := by kernel_rfl
theorem B7_4 : okP [0, 1, 2, 4, 8, 9] (gB [x0, x1, .val (.int 4), x3, .val (.int 7), x5, x6, x7, x8, x9, x10, x11]) = some [x0, x1, .val (.int 4), .val (.int 7), .val (.tuple [.str "red", .str "red", .str "red", .str "red", .str "red", .str "red", .str "red"]), .val (.tuple [.str "a", .str "b", .str "c", .str "d", .str "e", .str "f", .str "g"])] := by kernel_rfl
theorem B7_5 : okP [0, 1, 2, 4, 8, 9] (gB [x0, x1, .val (.int 5), x3, .val (.int 7), x5, x6, x7, x8, x9, x10, x11]) = some [x0, x1, .val (.int 5), .val (.int 7), .val (.tuple [.str "red", .str "red", .str "red", .str "red", .str "red", .str "red", .str "red"]), .val (.tuple [.str "a", .str "b", .str "c", .str "d", .str "e", .str "f", .str "g"])] := by kernel_rfl
theorem B7_6 : okP [0, 1, 2, 4, 8, 9] (gB [x0, x1, .val (.int 6), x3, .val (.int 7), x5, x6, x7, x8, x9, x10, x11]) = some [x0, x1, .val (.int 6), .val (.int 7), .val (.tuple [.str "red", .str "red", .str "red", .str "red", .str "red", .str "red", .str "red"]), .val (.tuple [.str "a", .str "b", .str "c", .str "d", .str "e", .str "f", .str "g"])] := by kernel_rfl
theorem B7_7 : okP [0, 1, 2, 4, 8, 9] (gB [x0, x1, .val (.int 7), x3, .val (.int 7), x5, x6, x7, x8, x9, x10, x11]) = some [x0, x1, .val (.int 7), .val (.int 7), .val (.tuple [.str "red", .str "red", .str "red", .str "red", .str "red", .str "red", .str "red"]), .val (.tuple [.str "a", .str "b", .str "c", .str "d", .str "e", .str "f", .str "g"])] := by kernel_rfl
theorem B7_8 : okP [0, 1, 2, 4, 8, 9] (gB [x0, x1, .val (.int 8), x3, .val (.int 7), x5, x6, x7, x8, x9, x10, x11]) = some [x0, x1, .val (.int 8), .val (.int 7), .val (.tuple [.str "red", .str "red", .str "red", .str "red", .str "red", .str "red", .str "red"]), .val (.tuple [.str "a", .str "b", .str "c", .str "d", .str "e", .str "f", .str "g"])] := by kernel_rfl
theorem B7_9 : okP [0, 1, 2, 4, 8, 9] (gB [x0, x1, .val (.int 9), x3, .val (.int 7), x5, x6, x7, x8, x9, x10, x11]) = some [x0, x1, .val (.int 9), .val (.int 7), .val (.tuple [.str "red", .str "red", .str "red", .str "red", .str "red", .str "red", .str "red"]), .val (.tuple [.str "a", .str "b", .str "c", .str "d", .str "e", .str "f", .str "g"])] := by kernel_rfl
theorem B7_10 : okP [0, 1, 2, 4, 8, 9] (gB [x0, x1, .val (.int 10), x3, .val (.int 7), x5, x6, x7, x8, x9, x10, x11]) = some [x0, x1, .val (.int 10), .val (.int 7), .val (.tuple [.str "red", .str "red", .str "red", .str "red", .str "red", .str "red", .str "red"]), .val (.tuple [.str "a", .str "b", .str "c", .str "d", .str "e", .str "f", .str "g"])] := by kernel_rfl
theorem B7_11 : okP [0, 1, 2, 4, 8, 9] (gB [x0, x1, .val (.int 11), x3, .val (.int 7), x5, x6, x7, x8, x9, x10, x11]) = some [x0, x1, .val (.int 11), .val (.int 7), .val (.tuple [.str "red", .str "red", .str "red", .str "red", .str "red", .str "red", .str "red"]), .val (.tuple [.str "a", .str "b", .str "c", .str "d", .str "e", .str "f", .str "g"])] := by kernel_rfl
theorem B7_12 : okP [0, 1, 2, 4, 8, 9] (gB [x0, x1, .val (.int 12), x3, .val (.int 7), x5, x6, x7, x8, x9, x10, x11]) = some [x0, x1, .val (.int 12), .val (.int 7), .val (.tuple [.str "red", .str "red", .str "red", .str "red", .str "red", .str "red", .str "red"]), .val (.tuple [.str "a", .str "b", .str "c", .str "d", .str "e", .str "f", .str "g"])] := by kernel_rfl
theorem B7_13 : okP [0, 1, 2, 4, 8, 9] (gB [x0, x1, .val (.int 13), x3, .val (.int 7), x5, x6, x7, x8, x9, x10, x11]) = some [x0, x1, .val (.int 13), .val (.int 7), .val (.tuple [.str "red", .str "red", .str "red", .str "red", .str "red", .str "red", .str "red"]), .val (.tuple [.str "a", .str "b", .str "c", .str "d", .str "e", .str "f", .str "g"])] := by kernel_rfl
theorem B7_14 : okP [0, 1, 2, 4, 8, 9] (gB [x0, x1, .val (.int 14), x3, .val (.int 7), x5, x6, x7, x8, x9, x10, x11]) = some [x0, x1, .val (.int 14), .val (.int 7), .val (.tuple [.str "red", .str "red", .str "red", .str "red", .str "red", .str "red", .str "red"]), .val (.tuple [.str "a", .str "b", .str "c", .str "d", .str "e", .str "f", .str "g"])] := by kernel_rfl
theorem B7_15 : okP [0, 1, 2, 4, 8, 9] (gB [x0, x1, .val (.int 15), x3, .val (.int 7), x5, x6, x7, x8, x9, x10, x11]) = some [x0, x1, .val (.int 15), .val (.int 7), .val (.tuple [.str "red", .str "red", .str "red", .str "red", .str "red", .str "red", .str "red"]), .val (.tuple [.str "a", .str "b", .str "c", .str "d", .str "e", .str "f", .str "g"])] := by kernel_rfl
theorem B7_16 : okP [0, 1, 2, 4, 8, 9] (gB [x0, x1, .val (.int 16), x3, .val (.int 7), x5, x6, x7, x8, x9, x10, x11]) = some [x0, x1, .val (.int 16), .val (.int 7), .val (.tuple [.str "red", .str "red", .str "red", .str "red", .str "red", .str "red", .str "red"]), .val (.tuple [.str "a", .str "b", .str "c", .str "d", .str "e", .str "f", .str "g"])] := by kernel_rfl
theorem B7_17 : okP [0, 1, 2, 4, 8, 9] (gB [x0, x1, .val (.int 17), x3, .val (.int 7), x5, x6, x7, x8, x9, x10, x11]) = some [x0, x1, .val (.int 17), .val (.int 7), .val (.tuple [.str "red", .str "red", .str "red", .str "red", .str "red", .str "red", .str "red"]), .val (.tuple [.str "a", .str "b", .str "c", .str "d", .str "e", .str "f", .str "g"])] := by kernel_rfl
theorem B7_18 : okP [0, 1, 2, 4, 8, 9] (gB [x0, x1, .val (.int 18), x3, .val (.int 7), x5, x6, x7, x8, x9, x10, x11]) = some [x0, x1, .val (.int 18), .val (.int 7), .val (.tuple [.str "red", .str "red", .str "red", .str "red", .str "red", .str "red", .str "red"]), .val (.tuple [.str "a", .str "b", .str "c", .str "d", .str "e", .str "f", .str "g"])] := by kernel_rfl
theorem B7_19 : okP [0, 1, 2, 4, 8, 9] (gB [x0, x1, .val (.int 19), x3, .val (.int 7), x5, x6, x7, x8, x9, x10, x11]) = some [x0, x1, .val (.int 19), .val (.int 7), .val (.tuple [.str "red", .str "red", .str "red", .str "red", .str "red", .str "red", .str "red"]), .val (.tuple [.str "a", .str "b", .str "c", .str "d", .str "e", .str "f", .str "g"])] := by kernel_rfl
theorem B7_20 : okP [0, 1, 2, 4, 8, 9] (gB [x0, x1, .val (.int 20), x3, .val (.int 7), x5, x6, x7, x8, x9, x10, x11]) = some [x0, x1, .val (.int 20), .val (.int 7), .val (.tuple [.str "red", .str "red", .str "red", .str "red", .str "red", .str "red", .str "red"]), .val (.tuple [.str "a", .str "b", .str "c", .str "d", .str "e", .str "f", .str "g"])] := by kernel_rfl
theorem B7 (l : Int) (h : 1 ≤ l ∧ l ≤ 20) : okP [0, 1, 2, 4, 8, 9] (gB [x0, x1, .val (.int l), x3, .val (.int 7), x5, x6, x7, x8, x9, x10, x11]) = some [x0, x1, .val (.int l), .val (.int 7), .val (.tuple [.str "red", .str "red", .str "red", .str "red", .str "red", .str "red", .str "red"]), .val (.tuple [.str "a", .str "b", .str "c", .str "d", .str "e", .str "f", .str "g"])] := by
  have c : l = 1 ∨ l = 2 ∨ l = 3 ∨ l = 4 ∨ l = 5 ∨ l = 6 ∨ l = 7 ∨ l = 8 ∨ l = 9 ∨ l = 10 ∨ l = 11 ∨ l = 12 ∨ l = 13 ∨ l = 14 ∨ l = 15 ∨ l = 16 ∨ l = 17 ∨ l = 18 ∨ l = 19 ∨ l = 20 := by omega
  rcases c with rfl | rfl | rfl | rfl | rfl | rfl | rfl | rfl | rfl | rfl | rfl | rfl | rfl | rfl | rfl | rfl | rfl | rfl | rfl | rfl
  · exact B7_1 _ _ _ _ _ _ _ _ _ _
  · exact B7_2 _ _ _ _ _ _ _ _ _ _
  · exact B7_3 _ _ _ _ _ _ _ _ _ _
  · exact B7_4 _ _ _ _ _ _ _ _ _ _
  · exact B7_5 _ _ _ _ _ _ _ _ _ _
  · exact B7_6 _ _ _ _ _ _ _ _ _ _
  · exact B7_7 _ _ _ _ _ _ _ _ _ _
  · exact B7_8 _ _ _ _ _ _ _ _ _ _
  · exact B7_9 _ _ _ _ _ _ _ _ _ _
  · exact B7_10 _ _ _ _ _ _ _ _ _ _
  · exact B7_11 _ _ _ _ _ _ _ _ _ _
  · exact B7_12 _ _ _ _ _ _ _ _ _ _
  · exact B7_13 _ _ _ _ _ _ _ _ _ _
  · exact B7_14 _ _ _ _ _ _ _ _ _ _
  · exact B7_15 _ _ _ _ _ _ _ _ _ _
  · exact B7_16 _ _ _ _ _ _ _ _ _ _
  · exact B7_17 _ _ _ _ _ _ _ _ _ _
  · exact B7_18 _ _ _ _ _ _ _ _ _ _
  · exact B7_19 _ _ _ _ _ _ _ _ _ _
  · exact B7_20 _ _ _ _ _ _ _ _ _ _
theorem r7 : g_law_3_3 [x0, .val (.list (Ld d)), x2, x3, .val (.int 7), x5, x6, x7, x8, x9, x10, x11] = .nx [x0, .val (.list (Ld d)), x2, x3, .val (.int 7), x5, x6, x7, x8, x9, .val (.int (d 7 % 7)), x11] := by kernel_rfl
theorem S7_0 : okP [0, 1, 2, 4] (g_law_3_4 [x0, x1, x2, x3, .val (.int 7), x5, x6, x7, .val (.tuple [.str "red", .str "red", .str "red", .str "red", .str "red", .str "red", .str "red"]), .val (.tuple [.str "a", .str "b", .str "c", .str "d", .str "e", .str "f", .str "g"]), .val (.int 0), x11]) = some [x0, x1, x2, .val (.int 7)] := by kernel_rfl
theorem S7_1 : okP [0, 1, 2, 4] (g_law_3_4 [x0, x1, x2, x3, .val (.int 7), x5, x6, x7, .val (.tuple [.str "red", .str "red", .str "red", .str "red", .str "red", .str "red", .str "red"]), .val (.tuple [.str "a", .str "b", .str "c", .str "d", .str "e", .str "f", .str "g"]), .val (.int 1), x11]) = some [x0, x1, x2, .val (.int 7)] := by kernel_rfl
theorem S7_2 : okP [0, 1, 2, 4] (g_law_3_4 [x0, x1, x2, x3, .val (.int 7), x5, x6, x7, .val (.tuple [.str "red", .str "red", .str "red", .str "red", .str "red", .str "red", .str "red"]), .val (.tuple [.str "a", .str "b", .str "c", .str "d", .str "e", .str "f", .str "g"]), .val (.int 2), x11]) = some [x0, x1, x2, .val (.int 7)] := by kernel_rfl
theorem S7_3 : okP [0, 1, 2, 4] (g_law_3_4 [x0, x1, x2, x3, .val (.int 7), x5, x6, x7, .val (.tuple [.str "red", .str "red", .str "red", .str "red", .str "red", .str "red", .str "red"]), .val (.tuple [.str "a", .str "b", .str "c", .str "d", .str "e", .str "f", .str "g"]), .val (.int 3), x11]) = some [x0, x1, x2, .val (.int 7)] := by kernel_rfl
theorem S7_4 : okP [0, 1, 2, 4] (g_law_3_4 [x0, x1, x2, x3, .val (.int 7), x5, x6, x7, .val (.tuple [.str "red", .str "red", .str "red", .str "red", .str "red", .str "red", .str "red"]), .val (.tuple [.str "a", .str "b", .str "c", .str "d", .str "e", .str "f", .str "g"]), .val (.int 4), x11]) = some [x0, x1, x2, .val (.int 7)] := by kernel_rfl
theorem S7_5 : okP [0, 1, 2, 4] (g_law_3_4 [x0, x1, x2, x3, .val (.int 7), x5, x6, x7, .val (.tuple [.str "red", .str "red", .str "red", .str "red", .str "red", .str "red", .str "red"]), .val (.tuple [.str "a", .str "b", .str "c", .str "d", .str "e", .str "f", .str "g"]), .val (.int 5), x11]) = some [x0, x1, x2, .val (.int 7)] := by kernel_rfl
theorem S7_6 : okP [0, 1, 2, 4] (g_law_3_4 [x0, x1, x2, x3, .val (.int 7), x5, x6, x7, .val (.tuple [.str "red", .str "red", .str "red", .str "red", .str "red", .str "red", .str "red"]), .val (.tuple [.str "a", .str "b", .str "c", .str "d", .str "e", .str "f", .str "g"]), .val (.int 6), x11]) = some [x0, x1, x2, .val (.int 7)] := by kernel_rfl
theorem S7 (s : Int) (h : 0 ≤ s ∧ s < 7) : okP [0, 1, 2, 4] (g_law_3_4 [x0, x1, x2, x3, .val (.int 7), x5, x6, x7, .val (.tuple [.str "red", .str "red", .str "red", .str "red", .str "red", .str "red", .str "red"]), .val (.tuple [.str "a", .str "b", .str "c", .str "d", .str "e", .str "f", .str "g"]), .val (.int s), x11]) = some [x0, x1, x2, .val (.int 7)] := by
  have c : s = 0 ∨ s = 1 ∨ s = 2 ∨ s = 3 ∨ s = 4 ∨ s = 5 ∨ s = 6 := by omega
  rcases c with rfl | rfl | rfl | rfl | rfl | rfl | rfl
  · exact S7_0 _ _ _ _ _ _ _ _
  · exact S7_1 _ _ _ _ _ _ _ _
  · exact S7_2 _ _ _ _ _ _ _ _
  · exact S7_3 _ _ _ _ _ _ _ _
  · exact S7_4 _ _ _ _ _ _ _ _
  · exact S7_5 _ _ _ _ _ _ _ _
  · exact S7_6 _ _ _ _ _ _ _ _
theorem C7 : okP [0, 1, 2] (gC [x0, x1, x2, x3, .val (.int 7), x5, x6, x7, x8, x9, x10, x11]) = some [x0, x1, x2] := by kernel_rfl
theorem T7 (l : Int) (h : 1 ≤ l ∧ l ≤ 20) : ∃ ρ, gT [x0, .val (.list (Ld d)), .val (.int l), x3, .val (.int 7), x5, x6, x7, x8, x9, x10, x11] = .nx ρ ∧ ρ.length = 12 ∧ [0, 1, 2].map (fun j => ρ.getD j .no) = [x0, .val (.list (Ld d)), .val (.int l)] := by
  rw [gT_eq]
  obtain ⟨ρ1, h1, l1, t1⟩ := okP_of (B7 x0 (.val (.list (Ld d))) x3 x5 x6 x7 x8 x9 x10 x11 l h)
  obtain ⟨y0, y1, y2, y3, y4, y5, y6, y7, y8, y9, y10, y11, rfl⟩ := exp12 l1
  simp only [List.map_cons, List.map_nil, List.getD_cons_zero, List.getD_cons_succ, List.cons.injEq, and_true] at t1
  obtain ⟨rfl, rfl, rfl, rfl, rfl, rfl⟩ := t1
  rw [seq_nx h1, seq_nx (r7 y0 (.val (.int l)) _ _ _ _ _ _ _ _ d)]
  obtain ⟨ρ2, h2, l2, t2⟩ := okP_of (S7 y0 (.val (.list (Ld d))) (.val (.int l)) y3 y5 y6 y7 y11 (d 7 % 7) (by omega))
  obtain ⟨z0, z1, z2, z3, z4, z5, z6, z7, z8, z9, z10, z11, rfl⟩ := exp12 l2
  simp only [List.map_cons, List.map_nil, List.getD_cons_zero, List.getD_cons_succ, List.cons.injEq, and_true] at t2
  obtain ⟨rfl, rfl, rfl, rfl⟩ := t2
  rw [seq_nx h2]
  exact okP_of (C7 _ _ _ _ _ _ _ _ _ _ _)
theorem B8_1 : okP [0, 1, 2, 4, 8, 9] (gB [x0, x1, .val (.int 1), x3, .val (.int 8), x5, x6, x7, x8, x9, x10, x11]) = some [x0, x1, .val (.int 1), .val (.int 8), .val (.tuple [.str "red", .str "red", .str "red", .str "red", .str "red", .str "red", .str "red", .str "red"]), .val (.tuple [.str "a", .str "b", .str "c", .str "d", .str "e", .str "f", .str "g", .str "h"])] := by kernel_rfl
theorem B8_2 : okP [0, 1, 2, 4, 8, 9] (gB [x0, x1, .val (.int 2), x3, .val (.int 8), x5, x6, x7, x8, x9, x10, x11]) = some [x0, x1, .val (.int 2), .val (.int 8), .val (.tuple [.str "red", .str "red", .str "red", .str "red", .str "red", .str "red", .str "red", .str "red"]), .val (.tuple [.str "a", .str "b", .str "c", .str "d", .str "e", .str "f", .str "g", .str "h"])] := by kernel_rfl
theorem B8_3 : okP [0, 1, 2, 4, 8, 9] (gB [x0, x1, .val (.int 3), x3, .val (.int 8), x5, x6, x7, x8, x9, x10, x11]) = some [x0, x1, .val (.int 3), .val (.int 8), .val (.tuple [.str "red", .str "red", .str "red", .str "red", .str "red", .str "red", .str "red", .str "red"]), .val (.tuple [.str "a", .str "b", .str "c", .str "d", .str "e", .str "f", .str "g", .str "h"])] := by kernel_rfl
theorem B8_4 : okP [0, 1, 2, 4, 8, 9] (gB [x0, x1, .val (.int 4), x3, .val (.int 8), x5, x6, x7, x8, x9, x10, x11]) = some [x0, x1, .val (.int 4), .val (.int 8), .val (.tuple [.str "red", .str "red", .str "red", .str "red", .str "red", .str "red", .str "red", .str "red"]), .val (.tuple [.str "a", .str "b", .str "c", .str "d", .str "e", .str "f", .str "g", .str "h"])] := by kernel_rfl
theorem B8_5 : okP [0, 1, 2, 4, 8, 9] (gB [x0, x1, .val (.int 5), x3, .val (.int 8), x5, x6, x7, x8, x9, x10, x11]) = some [x0, x1, .val (.int 5), .val (.int 8), .val (.tuple [.str "red", .str "red", .str "red", .str "red", .str "red", .str "red", .str "red", .str "red"]), .val (.tuple [.str "a", .str "b", .str "c", .str "d", .str "e", .str "f", .str "g", .str "h"])] := by kernel_rfl
theorem B8_6 : okP [0, 1, 2, 4, 8, 9] (gB [x0, x1, .val (.int 6), x3, .val (.int 8), x5, x6, x7, x8, x9, x10, x11]) = some [x0, x1, .val (.int 6), .val (.int 8), .val (.tuple [.str "red", .str "red", .str "red", .str "red", .str "red", .str "red", .str "red", .str "red"]), .val (.tuple [.str "a", .str "b", .str "c", .str "d", .str "e", .str "f", .str "g", .str "h"])] := by kernel_rfl
theorem B8_7 : okP [0, 1, 2, 4, 8, 9] (gB [x0, x1, .val (.int 7), x3, .val (.int 8), x5, x6, x7, x8, x9, x10, x11]) = some [x0, x1, .val (.int 7), .val (.int 8), .val (.tuple [.str "red", .str "red", .str "red", .str "red", .str "red", .str "red", .str "red", .str "red"]), .val (.tuple [.str "a", .str "b", .str "c", .str "d", .str "e", .str "f", .str "g", .str "h"])] := by kernel_rfl
theorem B8_8 : okP [0, 1, 2, 4, 8, 9] (gB [x0, x1, .val (.int 8), x3, .val (.int 8), x5, x6, x7, x8, x9, x10, x11]) = some [x0, x1, .val (.int 8), .val (.int 8), .val (.tuple [.str "red", .str "red", .str "red", .str "red", .str "red", .str "red", .str "red", .str "red"]), .val (.tuple [.str "a", .str "b", .str "c", .str "d", .str "e", .str "f", .str "g", .str "h"])] := by kernel_rfl
theorem B8_9 : okP [0, 1, 2, 4, 8, 9] (gB [x0, x1, .val (.int 9), x3, .val (.int 8), x5, x6, x7, x8, x9, x10, x11]) = some [x0, x1, .val (.int 9), .val (.int 8), .val (.tuple [.str "red", .str "red", .str "red", .str "red", .str "red", .str "red", .str "red", .str "red"]), .val (.tuple [.str "a", .str "b", .str "c", .str "d", .str "e", .str "f", .str "g", .str "h"])] := by kernel_rfl
theorem B8_10 : okP [0, 1, 2, 4, 8, 9] (gB [x0, x1, .val (.int 10), x3, .val (.int 8), x5, x6, x7, x8, x9, x10, x11]) = some [x0, x1, .val (.int 10), .val (.int 8), .val (.tuple [.str "red", .str "red", .str "red", .str "red", .str "red", .str "red", .str "red", .str "red"]), .val (.tuple [.str "a", .str "b", .str "c", .str "d", .str "e", .str "f", .str "g", .str "h"])] := by kernel_rfl
theorem B8_11 : okP [0, 1, 2, 4, 8, 9] (gB [x0, x1, .val (.int 11), x3, .val (.int 8), x5, x6, x7, x8, x9, x10, x11]) = some [x0, x1, .val (.int 11), .val (.int 8), .val (.tuple [.str "red", .str "red", .str "red", .str "red", .str "red", .str "red", .str "red", .str "red"]), .val (.tuple [.str "a", .str "b", .str "c", .str "d", .str "e", .str "f", .str "g", .str "h"])] := by kernel_rfl
theorem B8_12 : okP [0, 1, 2, 4, 8, 9] (gB [x0, x1, .val (.int 12), x3, .val (.int 8), x5, x6, x7, x8, x9, x10, x11]) = some [x0, x1, .val (.int 12), .val (.int 8), .val (.tuple [.str "red", .str "red", .str "red", .str "red", .str "red", .str "red", .str "red", .str "red"]), .val (.tuple [.str "a", .str "b", .str "c", .str "d", .str "e", .str "f", .str "g", .str "h"])] := by kernel_rfl
theorem B8_13 : okP [0, 1, 2, 4, 8, 9] (gB [x0, x1, .val (.int 13), x3, .val (.int 8), x5, x6, x7, x8, x9, x10, x11]) = some [x0, x1, .val (.int 13), .val (.int 8), .val (.tuple [.str "red", .str "red", .str "red", .str "red", .str "red", .str "red", .str "red", .str "red"]), .val (.tuple [.str "a", .str "b", .str "c", .str "d", .str "e", .str "f", .str "g", .str "h"])] := by kernel_rfl
theorem B8_14 : okP [0, 1, 2, 4, 8, 9] (gB [x0, x1, .val (.int 14), x3, .val (.int 8), x5, x6, x7, x8, x9, x10, x11]) = some [x0, x1, .val (.int 14), .val (.int 8), .val (.tuple [.str "red", .str "red", .str "red", .str "red", .str "red", .str "red", .str "red", .str "red"]), .val (.tuple [.str "a", .str "b", .str "c", .str "d", .str "e", .str "f", .str "g", .str "h"])] := by kernel_rfl
theorem B8_15 : okP [0, 1, 2, 4, 8, 9] (gB [x0, x1, .val (.int 15), x3, .val (.int 8), x5, x6, x7, x8, x9, x10, x11]) = some [x0, x1, .val (.int 15), .val (.int 8), .val (.tuple [.str "red", .str "red", .str "red", .str "red", .str "red", .str "red", .str "red", .str "red"]), .val (.tuple [.str "a", .str "b", .str "c", .str "d", .str "e", .str "f", .str "g", .str "h"])] := by kernel_rfl
theorem B8_16 : okP [0, 1, 2, 4, 8, 9] (gB [x0, x1, .val (.int 16), x3, .val (.int 8), x5, x6, x7, x8, x9, x10, x11]) = some [x0, x1, .val (.int 16), .val (.int 8), .val (.tuple [.str "red", .str "red", .str "red", .str "red", .str "red", .str "red", .str "red", .str "red"]), .val (.tuple [.str "a", .str "b", .str "c", .str "d", .str "e", .str "f", .str "g", .str "h"])] := by kernel_rfl
theorem B8_17 : okP [0, 1, 2, 4, 8, 9] (gB [x0, x1, .val (.int 17), x3, .val (.int 8), x5, x6, x7, x8, x9, x10, x11]) = some [x0, x1, .val (.int 17), .val (.int 8), .val (.tuple [.str "red", .str "red", .str "red", .str "red", .str "red", .str "red", .str "red", .str "red"]), .val (.tuple [.str "a", .str "b", .str "c", .str "d", .str "e", .str "f", .str "g", .str "h"])] := by kernel_rfl
theorem B8_18 : okP [0, 1, 2, 4, 8, 9] (gB [x0, x1, .val (.int 18), x3, .val (.int 8), x5, x6, x7, x8, x9, x10, x11]) = some [x0, x1, .val (.int 18), .val (.int 8), .val (.tuple [.str "red", .str "red", .str "red", .str "red", .str "red", .str "red", .str "red", .str "red"]), .val (.tuple [.str "a", .str "b", .str "c", .str "d", .str "e", .str "f", .str "g", .str "h"])] := by kernel_rfl
theorem B8_19 : okP [0, 1, 2, 4, 8, 9] (gB [x0, x1, .val (.int 19), x3, .val (.int 8), x5, x6, x7, x8, x9, x10, x11]) = some [x0, x1, .val (.int 19), .val (.int 8), .val (.tuple [.str "red", .str "red", .str "red", .str "red", .str "red", .str "red", .str "red", .str "red"]), .val (.tuple [.str "a", .str "b", .str "c", .str "d", .str "e", .str "f", .str "g", .str "h"])] := by kernel_rfl
theorem B8_20 : okP [0, 1, 2, 4, 8, 9] (gB [x0, x1, .val (.int 20), x3, .val (.int 8), x5, x6, x7, x8, x9, x10, x11]) = some [x0, x1, .val (.int 20), .val (.int 8), .val (.tuple [.str "red", .str "red", .str "red", .str "red", .str "red", .str "red", .str "red", .str "red"]), .val (.tuple [.str "a", .str "b", .str "c", .str "d", .str "e", .str "f", .str "g", .str "h"])] := by kernel_rfl
theorem B8 (l : Int) (h : 1 ≤ l ∧ l ≤ 20) : okP [0, 1, 2, 4, 8, 9] (gB [x0, x1, .val (.int l), x3, .val (.int 8), x5, x6, x7, x8, x9, x10, x11]) = some [x0, x1, .val (.int l), .val (.int 8), .val (.tuple [.str "red", .str "red", .str "red", .str "red", .str "red", .str "red", .str "red", .str "red"]), .val (.tuple [.str "a", .str "b", .str "c", .str "d", .str "e", .str "f", .str "g", .str "h"])] := by
  have c : l = 1 ∨ l = 2 ∨ l = 3 ∨ l = 4 ∨ l = 5 ∨ l = 6 ∨ l = 7 ∨ l = 8 ∨ l = 9 ∨ l = 10 ∨ l = 11 ∨ l = 12 ∨ l = 13 ∨ l = 14 ∨ l = 15 ∨ l = 16 ∨ l = 17 ∨ l = 18 ∨ l = 19 ∨ l = 20 := by omega
  rcases c with rfl | rfl | rfl | rfl | rfl | rfl | rfl | rfl | rfl | rfl | rfl | rfl | rfl | rfl | rfl | rfl | rfl | rfl | rfl | rfl
  · exact B8_1 _ _ _ _ _ _ _ _ _ _
  · exact B8_2 _ _ _ _ _ _ _ _ _ _
  · exact B8_3 _ _ _ _ _ _ _ _ _ _
  · exact B8_4 _ _ _ _ _ _ _ _ _ _
  · exact B8_5 _ _ _ _ _ _ _ _ _ _
  · exact B8_6 _ _ _ _ _ _ _ _ _ _
  · exact B8_7 _ _ _ _ _ _ _ _ _ _
  · exact B8_8 _ _ _ _ _ _ _ _ _ _
  · exact B8_9 _ _ _ _ _ _ _ _ _ _
  · exact B8_10 _ _ _ _ _ _ _ _ _ _
  · exact B8_11 _ _ _ _ _ _ _ _ _ _
  · exact B8_12 _ _ _ _ _ _ _ _ _ _
  · exact B8_13 _ _ _ _ _ _ _ _ _ _
  · exact B8_14 _ _ _ _ _ _ _ _ _ _
  · exact B8_15 _ _ _ _ _ _ _ _ _ _
  · exact B8_16 _ _ _ _ _ _ _ _ _ _
  · exact B8_17 _ _ _ _ _ _ _ _ _ _
  · exact B8_18 _ _ _ _ _ _ _ _ _ _
  · exact B8_19 _ _ _ _ _ _ _ _ _ _
  · exact B8_20 _ _ _ _ _ _ _ _ _ _
theorem r8 : g_law_3_3 [x0, .val (.list (Ld d)), x2, x3, .val (.int 8), x5, x6, x7, x8, x9, x10, x11] = .nx [x0, .val (.list (Ld d)), x2, x3, .val (.int 8), x5, x6, x7, x8, x9, .val (.int (d 8 % 8)), x11] := by kernel_rfl
theorem S8_0 : okP [0, 1, 2, 4] (g_law_3_4 [x0, x1, x2, x3, .val (.int 8), x5, x6, x7, .val (.tuple [.str "red", .str "red", .str "red", .str "red", .str "red", .str "red", .str "red", .str "red"]), .val (.tuple [.str "a", .str "b", .str "c", .str "d", .str "e", .str "f", .str "g", .str "h"]), .val (.int 0), x11]) = some [x0, x1, x2, .val (.int 8)] := by kernel_rfl
theorem S8_1 : okP [0, 1, 2, 4] (g_law_3_4 [x0, x1, x2, x3, .val (.int 8), x5, x6, x7, .val (.tuple [.str "red", .str "red", .str "red", .str "red", .str "red", .str "red", .str "red", .str "red"]), .val (.tuple [.str "a", .str "b", .str "c", .str "d", .str "e", .str "f", .str "g", .str "h"]), .val (.int 1), x11]) = some [x0, x1, x2, .val (.int 8)] := by kernel_rfl
theorem S8_2 : okP [0, 1, 2, 4] (g_law_3_4 [x0, x1, x2, x3, .val (.int 8), x5, x6, x7, .val (.tuple [.str "red", .str "red", .str "red", .str "red", .str "red", .str "red", .str "red", .str "red"]), .val (.tuple [.str "a", .str "b", .str "c", .str "d", .str "e", .str "f", .str "g", .str "h"]), .val (.int 2), x11]) = some [x0, x1, x2, .val (.int 8)] := by kernel_rfl
theorem S8_3 : okP [0, 1, 2, 4] (g_law_3_4 [x0, x1, x2, x3, .val (.int 8), x5, x6, x7, .val (.tuple [.str "red", .str "red", .str "red", .str "red", .str "red", .str "red", .str "red", .str "red"]), .val (.tuple [.str "a", .str "b", .str "c", .str "d", .str "e", .str "f", .str "g", .str "h"]), .val (.int 3), x11]) = some [x0, x1, x2, .val (.int 8)] := by kernel_rfl
theorem S8_4 : okP [0, 1, 2, 4] (g_law_3_4 [x0, x1, x2, x3, .val (.int 8), x5, x6, x7, .val (.tuple [.str "red", .str "red", .str "red", .str "red", .str "red", .str "red", .str "red", .str "red"]), .val (.tuple [.str "a", .str "b", .str "c", .str "d", .str "e", .str "f", .str "g", .str "h"]), .val (.int 4), x11]) = some [x0, x1, x2, .val (.int 8)] := by kernel_rfl
theorem S8_5 : okP [0, 1, 2, 4] (g_law_3_4 [x0, x1, x2, x3, .val (.int 8), x5, x6, x7, .val (.tuple [.str "red", .str "red", .str "red", .str "red", .str "red", .str "red", .str "red", .str "red"]), .val (.tuple [.str "a", .str "b", .str "c", .str "d", .str "e", .str "f", .str "g", .str "h"]), .val (.int 5), x11]) = some [x0, x1, x2, .val (.int 8)] := by kernel_rfl
theorem S8_6 : okP [0, 1, 2, 4] (g_law_3_4 [x0, x1, x2, x3, .val (.int 8), x5, x6, x7, .val (.tuple [.str "red", .str "red", .str "red", .str "red", .str "red", .str "red", .str "red", .str "red"]), .val (.tuple [.str "a", .str "b", .str "c", .str "d", .str "e", .str "f", .str "g", .str "h"]), .val (.int 6), x11]) = some [x0, x1, x2, .val (.int 8)] := by kernel_rfl
theorem S8_7 : okP [0, 1, 2, 4] (g_law_3_4 [x0, x1, x2, x3, .val (.int 8), x5, x6, x7, .val (.tuple [.str "red", .str "red", .str "red", .str "red", .str "red", .str "red", .str "red", .str "red"]), .val (.tuple [.str "a", .str "b", .str "c", .str "d", .str "e", .str "f", .str "g", .str "h"]), .val (.int 7), x11]) = some [x0, x1, x2, .val (.int 8)] := by kernel_rfl
theorem S8 (s : Int) (h : 0 ≤ s ∧ s < 8) : okP [0, 1, 2, 4] (g_law_3_4 [x0, x1, x2, x3, .val (.int 8), x5, x6, x7, .val (.tuple [.str "red", .str "red", .str "red", .str "red", .str "red", .str "red", .str "red", .str "red"]), .val (.tuple [.str "a", .str "b", .str "c", .str "d", .str "e", .str "f", .str "g", .str "h"]), .val (.int s), x11]) = some [x0, x1, x2, .val (.int 8)] := by
  have c : s = 0 ∨ s = 1 ∨ s = 2 ∨ s = 3 ∨ s = 4 ∨ s = 5 ∨ s = 6 ∨ s = 7 := by omega
  rcases c with rfl | rfl | rfl | rfl | rfl | rfl | rfl | rfl
  · exact S8_0 _ _ _ _ _ _ _ _
  · exact S8_1 _ _ _ _ _ _ _ _
  · exact S8_2 _ _ _ _ _ _ _ _
  · exact S8_3 _ _ _ _ _ _ _ _
  · exact S8_4 _ _ _ _ _ _ _ _
  · exact S8_5 _ _ _ _ _ _ _ _
  · exact S8_6 _ _ _ _ _ _ _ _
  · exact S8_7 _ _ _ _ _ _ _ _
theorem C8 : okP [0, 1, 2] (gC [x0, x1, x2, x3, .val (.int 8), x5, x6, x7, x8, x9, x10, x11]) = some [x0, x1, x2] := by kernel_rfl
theorem T8 (l : Int) (h : 1 ≤ l ∧ l ≤ 20) : ∃ ρ, gT [x0, .val (.list (Ld d)), .val (.int l), x3, .val (.int 8), x5, x6, x7, x8, x9, x10, x11] = .nx ρ ∧ ρ.length = 12 ∧ [0, 1, 2].map (fun j => ρ.getD j .no) = [x0, .val (.list (Ld d)), .val (.int l)] := by
  rw [gT_eq]
  obtain ⟨ρ1, h1, l1, t1⟩ := okP_of (B8 x0 (.val (.list (Ld d))) x3 x5 x6 x7 x8 x9 x10 x11 l h)
  obtain ⟨y0, y1, y2, y3, y4, y5, y6, y7, y8, y9, y10, y11, rfl⟩ := exp12 l1
  simp only [List.map_cons, List.map_nil, List.getD_cons_zero, List.getD_cons_succ, List.cons.injEq, and_true] at t1
  obtain ⟨rfl, rfl, rfl, rfl, rfl, rfl⟩ := t1
  rw [seq_nx h1, seq_nx (r8 y0 (.val (.int l)) _ _ _ _ _ _ _ _ d)]
  obtain ⟨ρ2, h2, l2, t2⟩ := okP_of (S8 y0 (.val (.list (Ld d))) (.val (.int l)) y3 y5 y6 y7 y11 (d 8 % 8) (by omega))
  obtain ⟨z0, z1, z2, z3, z4, z5, z6, z7, z8, z9, z10, z11, rfl⟩ := exp12 l2
  simp only [List.map_cons, List.map_nil, List.getD_cons_zero, List.getD_cons_succ, List.cons.injEq, and_true] at t2
  obtain ⟨rfl, rfl, rfl, rfl⟩ := t2
  rw [seq_nx h2]
  exact okP_of (C8 _ _ _ _ _ _ _ _ _ _ _)
theorem B9_1 : okP [0, 1, 2, 4, 8, 9] (gB [x0, x1, .val (.int 1), x3, .val (.int 9), x5, x6, x7, x8, x9, x10, x11]) = some [x0, x1, .val (.int 1), .val (.int 9), .val (.tuple [.str "red", .str "red", .str "red", .str "red", .str "red", .str "red", .str "red", .str "red", .str "red"]), .val (.tuple [.str "a", .str "b", .str "c", .str "d", .str "e", .str "f", .str "g", .str "h", .str "i"])] := by kernel_rfl
theorem B9_2 : okP [0, 1, 2, 4, 8, 9] (gB [x0, x1, .val (.int 2), x3, .val (.int 9), x5, x6, x7, x8, x9, x10, x11]) = some [x0, x1, .val (.int 2), .val (.int 9), .val (.tuple [.str "red", .str "red", .str "red", .str "red", .str "red", .str "red", .str "red", .str "red", .str "red"]), .val (.tuple [.str "a", .str "b", .str "c", .str "d", .str "e", .str "f", .str "g", .str "h", .str "i"])] := by kernel_rfl
theorem B9_3 : okP [0, 1, 2, 4, 8, 9] (gB [x0, x1, .val (.int 3), x3, .val (.int 9), x5, x6, x7, x8, x9, x10, x11]) = some [x0, x1, .val (.int 3), .val (.int 9), .val (.tuple [.str "red", .str "red", .str "red", .str "red", .str "red", .str "red", .str "red", .str "red", .str "red"]), .val (.tuple [.str "a", .str "b", .str "c", .str "d", .str "e", .str "f", .str "g", .str "h", .str "i"])] := by kernel_rfl
theorem B9_4 : okP [0, 1, 2, 4, 8, 9] (gB [x0, x1, .val (.int 4), x3, .val (.int 9), x5, x6, x7, x8, x9, x10, x11]) = some [x0, x1, .val (.int 4), .val (.int 9), .val (.tuple [.str "red", .str "red", .str "red", .str "red", .str "red", .str "red", .str "red", .str "red", .str "red"]), .val (.tuple [.str "a", .str "b", .str "c", .str "d", .str "e", .str "f", .str "g", .str "h", .str "i"])] := by kernel_rfl
theorem B9_5 : okP [0, 1, 2, 4, 8, 9] (gB [x0, x1, .val (.int 5), x3, .val (.int 9), x5, x6, x7, x8, x9, x10, x11]) = some [x0, x1, .val (.int 5), .val (.int 9), .val (.tuple [.str "red", .str "red", .str "red", .str "red", .str "red", .str "red", .str "red", .str "red", .str "red"]), .val (.tuple [.str "a", .str "b", .str "c", .str "d", .str "e", .str "f", .str "g", .str "h", .str "i"])] := by kernel_rfl
theorem B9_6 : okP [0, 1, 2, 4, 8, 9] (gB [x0, x1, .val (.int 6), x3, .val (.int 9), x5, x6, x7, x8, x9, x10, x11]) = some [x0, x1, .val (.int 6), .val (.int 9), .val (.tuple [.str "red", .str "red", .str "red", .str "red", .str "red", .str "red", .str "red", .str "red", .str "red"]), .val (.tuple [.str "a", .str "b", .str "c", .str "d", .str "e", .str "f", .str "g", .str "h", .str "i"])] := by kernel_rfl
theorem B9_7 : okP [0, 1, 2, 4, 8, 9] (gB [x0, x1, .val (.int 7), x3, .val (.int 9), x5, x6, x7, x8, x9, x10, x11]) = some [x0, x1, .val (.int 7), .val (.int 9), .val (.tuple [.str "red", .str "red", .str "red", .str "red", .str "red", .str "red", .str "red", .str "red", .str "red"]), .val (.tuple [.str "a", .str "b", .str "c", .str "d", .str "e", .str "f", .str "g", .str "h", .str "i"])] := by kernel_rfl
theorem B9_8 : okP [0, 1, 2, 4, 8, 9] (gB [x0, x1, .val (.int 8), x3, .val (.int 9), x5, x6, x7, x8, x9, x10, x11]) = some [x0, x1, .val (.int 8), .val (.int 9), .val (.tuple [.str "red", .str "red", .str "red", .str "red", .str "red", .str "red", .str "red", .str "red", .str "red"]), .val (.tuple [.str "a", .str "b", .str "c", .str "d", .str "e", .str "f", .str "g", .str "h", .str "i"])] := by kernel_rfl
theorem B9_9 : okP [0, 1, 2, 4, 8, 9] (gB [x0, x1, .val (.int 9), x3, .val (.int 9), x5, x6, x7, x8, x9, x10, x11]) = some [x0, x1, .val (.int 9), .val (.int 9), .val (.tuple [.str "red", .str "red", .str "red", .str "red", .str "red", .str "red", .str "red", .str "red", .str "red"]), .val (.tuple [.str "a", .str "b", .str "c", .str "d", .str "e", .str "f", .str "g", .str "h", .str "i"])] := by kernel_rfl
theorem B9_10 : okP [0, 1, 2, 4, 8, 9] (gB [x0, x1, .val (.int 10), x3, .val (.int 9), x5, x6, x7, x8, x9, x10, x11]) = some [x0, x1, .val (.int 10), .val (.int 9), .val (.tuple [.str "red", .str "red", .str "red", .str "red", .str "red", .str "red", .str "red", .str "red", .str "red"]), .val (.tuple [.str "a", .str "b", .str "c", .str "d", .str "e", .str "f", .str "g", .str "h", .str "i"])] := by kernel_rfl
theorem B9_11 : okP [0, 1, 2, 4, 8, 9] (gB [x0, x1, .val (.int 11), x3, .val (.int 9), x5, x6, x7, x8, x9, x10, x11]) = some [x0, x1, .val (.int 11), .val (.int 9), .val (.tuple [.str "red", .str "red", .str "red", .str "red", .str "red", .str "red", .str "red", .str "red", .str "red"]), .val (.tuple [.str "a", .str "b", .str "c", .str "d", .str "e", .str "f", .str "g", .str "h", .str "i"])] := by kernel_rfl
theorem B9_12 : okP [0, 1, 2, 4, 8, 9] (gB [x0, x1, .val (.int 12), x3, .val (.int 9), x5, x6, x7, x8, x9, x10, x11]) = some [x0, x1, .val (.int 12), .val (.int 9), .val (.tuple [.str "red", .str "red", .str "red", .str "red", .str "red", .str "red", .str "red", .str "red", .str "red"]), .val (.tuple [.str "a", .str "b", .str "c", .str "d", .str "e", .str "f", .str "g", .str "h", .str "i"])] := by kernel_rfl
theorem B9_13 : okP [0, 1, 2, 4, 8, 9] (gB [x0, x1, .val (.int 13), x3, .val (.int 9), x5, x6, x7, x8, x9, x10, x11]) = some [x0, x1, .val (.int 13), .val (.int 9), .val (.tuple [.str "red", .str "red", .str "red", .str "red", .str "red", .str "red", .str "red", .str "red", .str "red"]), .val (.tuple [.str "a", .str "b", .str "c", .str "d", .str "e", .str "f", .str "g", .str "h", .str "i"])] := by kernel_rfl
theorem B9_14 : okP [0, 1, 2, 4, 8, 9] (gB [x0, x1, .val (.int 14), x3, .val (.int 9), x5, x6, x7, x8, x9, x10, x11]) = some [x0, x1, .val (.int 14), .val (.int 9), .val (.tuple [.str "red", .str "red", .str "red", .str "red", .str "red", .str "red", .str "red", .str "red", .str "red"]), .val (.tuple [.str "a", .str "b", .str "c", .str "d", .str "e", .str "f", .str "g", .str "h", .str "i"])] := by kernel_rfl
theorem B9_15 : okP [0, 1, 2, 4, 8, 9] (gB [x0, x1, .val (.int 15), x3, .val (.int 9), x5, x6, x7, x8, x9, x10, x11]) = some [x0, x1, .val (.int 15), .val (.int 9), .val (.tuple [.str "red", .str "red", .str "red", .str "red", .str "red", .str "red", .str "red", .str "red", .str "red"]), .val (.tuple [.str "a", .str "b", .str "c", .str "d", .str "e", .str "f", .str "g", .str "h", .str "i"])] := by kernel_rfl
theorem B9_16 : okP [0, 1, 2, 4, 8, 9] (gB [x0, x1, .val (.int 16), x3, .val (.int 9), x5, x6, x7, x8, x9, x10, x11]) = some [x0, x1, .val (.int 16), .val (.int 9), .val (.tuple [.str "red", .str "red", .str "red", .str "red", .str "red", .str "red", .str "red", .str "red", .str "red"]), .val (.tuple [.str "a", .str "b", .str "c", .str "d", .str "e", .str "f", .str "g", .str "h", .str "i"])] := by kernel_rfl
theorem B9_17 : okP [0, 1, 2, 4, 8, 9] (gB [x0, x1, .val (.int 17), x3, .val (.int 9), x5, x6, x7, x8, x9, x10, x11]) = some [x0, x1, .val (.int 17), .val (.int 9), .val (.tuple [.str "red", .str "red", .str "red", .str "red", .str "red", .str "red", .str "red", .str "red", .str "red"]), .val (.tuple [.str "a", .str "b", .str "c", .str "d", .str "e", .str "f", .str "g", .str "h", .str "i"])] := by kernel_rfl
theorem B9_18 : okP [0, 1, 2, 4, 8, 9] (gB [x0, x1, .val (.int 18), x3, .val (.int 9), x5, x6, x7, x8, x9, x10, x11]) = some [x0, x1, .val (.int 18), .val (.int 9), .val (.tuple [.str "red", .str "red", .str "red", .str "red", .str "red", .str "red", .str "red", .str "red", .str "red"]), .val (.tuple [.str "a", .str "b", .str "c", .str "d", .str "e", .str "f", .str "g", .str "h", .str "i"])] := by kernel_rfl
theorem B9_19 : okP [0, 1, 2, 4, 8, 9] (gB [x0, x1, .val (.int 19), x3, .val (.int 9), x5, x6, x7, x8, x9, x10, x11]) = some [x0, x1, .val (.int 19), .val (.int 9), .val (.tuple [.str "red", .str "red", .str "red", .str "red", .str "red", .str "red", .str "red", .str "red", .str "red"]), .val (.tuple [.str "a", .str "b", .str "c", .str "d", .str "e", .str "f", .str "g", .str "h", .str "i"])] := by kernel_rfl
theorem B9_20 : okP [0, 1, 2, 4, 8, 9] (gB [x0, x1, .val (.int 20), x3, .val (.int 9), x5, x6, x7, x8, x9, x10, x11]) = some [x0, x1, .val (.int 20), .val (.int 9), .val (.tuple [.str "red", .str "red", .str "red", .str "red", .str "red", .str "red", .str "red", .str "red", .str "red"]), .val (.tuple [.str "a", .str "b", .str "c", .str "d", .str "e", .str "f", .str "g", .str "h", .str "i"])] := by kernel_rfl
theorem B9 (l : Int) (h : 1 ≤ l ∧ l ≤ 20) : okP [0, 1, 2, 4, 8, 9] (gB [x0, x1, .val (.int l), x3, .val (.int 9), x5, x6, x7, x8, x9, x10, x11]) = some [x0, x1, .val (.int l), .val (.int 9), .val (.tuple [.str "red", .str "red", .str "red", .str "red", .str "red", .str "red", .str "red", .str "red", .str "red"]), .val (.tuple [.str "a", .str "b", .str "c", .str "d", .str "e", .str "f", .str "g", .str "h", .str "i"])] := by
  have c : l = 1 ∨ l = 2 ∨ l = 3 ∨ l = 4 ∨ l = 5 ∨ l = 6 ∨ l = 7 ∨ l = 8 ∨ l = 9 ∨ l = 10 ∨ l = 11 ∨ l = 12 ∨ l = 13 ∨ l = 14 ∨ l = 15 ∨ l = 16 ∨ l = 17 ∨ l = 18 ∨ l = 19 ∨ l = 20 := by omega
  rcases c with rfl | rfl | rfl | rfl | rfl | rfl | rfl | rfl | rfl | rfl | rfl | rfl | rfl | rfl | rfl | rfl | rfl | rfl | rfl | rfl
  · exact B9_1 _ _ _ _ _ _ _ _ _ _
  · exact B9_2 _ _ _ _ _ _ _ _ _ _
  · exact B9_3 _ _ _ _ _ _ _ _ _ _
  · exact B9_4 _ _ _ _ _ _ _ _ _ _
  · exact B9_5 _ _ _ _ _ _ _ _ _ _
  · exact B9_6 _ _ _ _ _ _ _ _ _ _
  · exact B9_7 _ _ _ _ _ _ _ _ _ _
  · exact B9_8 _ _ _ _ _ _ _ _ _ _
  · exact B9_9 _ _ _ _ _ _ _ _ _ _
  · exact B9_10 _ _ _ _ _ _ _ _ _ _
  · exact B9_11 _ _ _ _ _ _ _ _ _ _
  · exact B9_12 _ _ _ _ _ _ _ _ _ _
  · exact B9_13 _ _ _ _ _ _ _ _ _ _
  · exact B9_14 _ _ _ _ _ _ _ _ _ _
  · exact B9_15 _ _ _ _ _ _ _ _ _ _
  · exact B9_16 _ _ _ _ _ _ _ _ _ _
  · exact B9_17 _ _ _ _ _ _ _ _ _ _
  · exact B9_18 _ _ _ _ _ _ _ _ _ _
  · exact B9_19 _ _ _ _ _ _ _ _ _ _
  · exact B9_20 _ _ _ _ _ _ _ _ _ _
theorem r9 : g_law_3_3 [x0, .val (.list (Ld d)), x2, x3, .val (.int 9), x5, x6, x7, x8, x9, x10, x11] = .nx [x0, .val (.list (Ld d)), x2, x3, .val (.int 9), x5, x6, x7, x8, x9, .val (.int (d 9 % 9)), x11] := by kernel_rfl
theorem S9_0 : okP [0, 1, 2, 4] (g_law_3_4 [x0, x1, x2, x3, .val (.int 9), x5, x6, x7, .val (.tuple [.str "red", .str "red", .str "red", .str "red", .str "red", .str "red", .str "red", .str "red", .str "red"]), .val (.tuple [.str "a", .str "b", .str "c", .str "d", .str "e", .str "f", .str "g", .str "h", .str "i"]), .val (.int 0), x11]) = some [x0, x1, x2, .val (.int 9)] := by kernel_rfl
theorem S9_1 : okP [0, 1, 2, 4] (g_law_3_4 [x0, x1, x2, x3, .val (.int 9), x5, x6, x7, .val (.tuple [.str "red", .str "red", .str "red", .str "red", .str "red", .str "red", .str "red", .str "red", .str "red"]), .val (.tuple [.str "a", .str "b", .str "c", .str "d", .str "e", .str "f", .str "g", .str "h", .str "i"]), .val (.int 1), x11]) = some [x0, x1, x2, .val (.int 9)] := by kernel_rfl
theorem S9_2 : okP [0, 1, 2, 4] (g_law_3_4 [x0, x1, x2, x3, .val (.int 9), x5, x6, x7, .val (.tuple [.str "red", .str "red", .str "red", .str "red", .str "red", .str "red", .str "red", .str "red", .str "red"]), .val (.tuple [.str "a", .str "b", .str "c", .str "d", .str "e", .str "f", .str "g", .str "h", .str "i"]), .val (.int 2), x11]) = some [x0, x1, x2, .val (.int 9)] := by kernel_rfl
theorem S9_3 : okP [0, 1, 2, 4] (g_law_3_4 [x0, x1, x2, x3, .val (.int 9), x5, x6, x7, .val (.tuple [.str "red", .str "red", .str "red", .str "red", .str "red", .str "red", .str "red", .str "red", .str "red"]), .val (.tuple [.str "a", .str "b", .str "c", .str "d", .str "e", .str "f", .str "g", .str "h", .str "i"]), .val (.int 3), x11]) = some [x0, x1, x2, .val (.int 9)] := by kernel_rfl
theorem S9_4 : okP [0, 1, 2, 4] (g_law_3_4 [x0, x1, x2, x3, .val (.int 9), x5, x6, x7, .val (.tuple [.str "red", .str "red", .str "red", .str "red", .str "red", .str "red", .str "red", .str "red", .str "red"]), .val (.tuple [.str "a", .str "b", .str "c", .str "d", .str "e", .str "f", .str "g", .str "h", .str "i"]), .val (.int 4), x11]) = some [x0, x1, x2, .val (.int 9)] := by kernel_rfl
theorem S9_5 : okP [0, 1, 2, 4] (g_law_3_4 [x0, x1, x2, x3, .val (.int 9), x5, x6, x7, .val (.tuple [.str "red", .str "red", .str "red", .str "red", .str "red", .str "red", .str "red", .str "red", .str "red"]), .val (.tuple [.str "a", .str "b", .str "c", .str "d", .str "e", .str "f", .str "g", .str "h", .str "i"]), .val (.int 5), x11]) = some [x0, x1, x2, .val (.int 9)] := by kernel_rfl
theorem S9_6 : okP [0, 1, 2, 4] (g_law_3_4 [x0, x1, x2, x3, .val (.int 9), x5, x6, x7, .val (.tuple [.str "red", .str "red", .str "red", .str "red", .str "red", .str "red", .str "red", .str "red", .str "red"]), .val (.tuple [.str "a", .str "b", .str "c", .str "d", .str "e", .str "f", .str "g", .str "h", .str "i"]), .val (.int 6), x11]) = some [x0, x1, x2, .val (.int 9)] := by kernel_rfl
theorem S9_7 : okP [0, 1, 2, 4] (g_law_3_4 [x0, x1, x2, x3, .val (.int 9), x5, x6, x7, .val (.tuple [.str "red", .str "red", .str "red", .str "red", .str "red", .str "red", .str "red", .str "red", .str "red"]), .val (.tuple [.str "a", .str "b", .str "c", .str "d", .str "e", .str "f", .str "g", .str "h", .str "i"]), .val (.int 7), x11]) = some [x0, x1, x2, .val (.int 9)] := by kernel_rfl
theorem S9_8 : okP [0, 1, 2, 4] (g_law_3_4 [x0, x1, x2, x3, .val (.int 9), x5, x6, x7, .val (.tuple [.str "red", .str "red", .str "red", .str "red", .str "red", .str "red", .str "red", .str "red", .str "red"]), .val (.tuple [.str "a", .str "b", .str "c", .str "d", .str "e", .str "f", .str "g", .str "h", .str "i"]), .val (.int 8), x11]) = some [x0, x1, x2, .val (.int 9)] := by kernel_rfl
theorem S9 (s : Int) (h : 0 ≤ s ∧ s < 9) : okP [0, 1, 2, 4] (g_law_3_4 [x0, x1, x2, x3, .val (.int 9), x5, x6, x7, .val (.tuple [.str "red", .str "red", .str "red", .str "red", .str "red", .str "red", .str "red", .str "red", .str "red"]), .val (.tuple [.str "a", .str "b", .str "c", .str "d", .str "e", .str "f", .str "g", .str "h", .str "i"]), .val (.int s), x11]) = some [x0, x1, x2, .val (.int 9)] := by
  have c : s = 0 ∨ s = 1 ∨ s = 2 ∨ s = 3 ∨ s = 4 ∨ s = 5 ∨ s = 6 ∨ s = 7 ∨ s = 8 := by omega
  rcases c with rfl | rfl | rfl | rfl | rfl | rfl | rfl | rfl | rfl
  · exact S9_0 _ _ _ _ _ _ _ _
  · exact S9_1 _ _ _ _ _ _ _ _
  · exact S9_2 _ _ _ _ _ _ _ _
  · exact S9_3 _ _ _ _ _ _ _ _
  · exact S9_4 _ _ _ _ _ _ _ _
  · exact S9_5 _ _ _ _ _ _ _ _
  · exact S9_6 _ _ _ _ _ _ _ _
  · exact S9_7 _ _ _ _ _ _ _ _
  · exact S9_8 _ _ _ _ _ _ _ _
theorem C9 : okP [0, 1, 2] (gC [x0, x1, x2, x3, .val (.int 9), x5, x6, x7, x8, x9, x10, x11]) = some [x0, x1, x2] := by kernel_rfl
theorem T9 (l : Int) (h : 1 ≤ l ∧ l ≤ 20) : ∃ ρ, gT [x0, .val (.list (Ld d)), .val (.int l), x3, .val (.int 9), x5, x6, x7, x8, x9, x10, x11] = .nx ρ ∧ ρ.length = 12 ∧ [0, 1, 2].map (fun j => ρ.getD j .no) = [x0, .val (.list (Ld d)), .val (.int l)] := by
  rw [gT_eq]
  obtain ⟨ρ1, h1, l1, t1⟩ := okP_of (B9 x0 (.val (.list (Ld d))) x3 x5 x6 x7 x8 x9 x10 x11 l h)
  obtain ⟨y0, y1, y2, y3, y4, y5, y6, y7, y8, y9, y10, y11, rfl⟩ := exp12 l1
  simp only [List.map_cons, List.map_nil, List.getD_cons_zero, List.getD_cons_succ, List.cons.injEq, and_true] at t1
  obtain ⟨rfl, rfl, rfl, rfl, rfl, rfl⟩ := t1
  rw [seq_nx h1, seq_nx (r9 y0 (.val (.int l)) _ _ _ _ _ _ _ _ d)]
  obtain ⟨ρ2, h2, l2, t2⟩ := okP_of (S9 y0 (.val (.list (Ld d))) (.val (.int l)) y3 y5 y6 y7 y11 (d 9 % 9) (by omega))
  obtain ⟨z0, z1, z2, z3, z4, z5, z6, z7, z8, z9, z10, z11, rfl⟩ := exp12 l2
  simp only [List.map_cons, List.map_nil, List.getD_cons_zero, List.getD_cons_succ, List.cons.injEq, and_true] at t2
  obtain ⟨rfl, rfl, rfl, rfl⟩ := t2
  rw [seq_nx h2]
  exact okP_of (C9 _ _ _ _ _ _ _ _ _ _ _)
theorem B10_1 : okP [0, 1, 2, 4, 8, 9] (gB [x0, x1, .val (.int 1), x3, .val (.int 10), x5, x6, x7, x8, x9, x10, x11]) = some [x0, x1, .val (.int 1), .val (.int 10), .val (.tuple [.str "red", .str "red", .str "red", .str "red", .str "red", .str "red", .str "red", .str "red", .str "red", .str "red"]), .val (.tuple [.str "a", .str "b", .str "c", .str "d", .str "e", .str "f", .str "g", .str "h", .str "i", .str "j"])] := by kernel_rfl
theorem B10_2 : okP [0, 1, 2, 4, 8, 9] (gB [x0, x1, .val (.int 2), x3, .val (.int 10), x5, x6, x7, x8, x9, x10, x11]) = some [x0, x1, .val (.int 2), .val (.int 10), .val (.tuple [.str "red", .str "red", .str "red", .str "red", .str "red", .str "red", .str "red", .str "red", .str "red", .str "red"]), .val (.tuple [.str "a", .str "b", .str "c", .str "d", .str "e", .str "f", .str "g", .str "h", .str "i", .str "j"])] := by kernel_rfl
theorem B10_3 : okP [0, 1, 2, 4, 8, 9] (gB [x0, x1, .val (.int 3), x3, .val (.int 10), x5, x6, x7, x8, x9, x10, x11]) = some [x0, x1, .val (.int 3), .val (.int 10), .val (.tuple [.str "red", .str "red", .str "red", .str "red", .str "red", .str "red", .str "red", .str "red", .str "red", .str "red"]), .val (.tuple [.str "a", .str "b", .str "c", .str "d", .str "e", .str "f", .str "g", .str "h", .str "i", .str "j"])] := by kernel_rfl
theorem B10_4 : okP [0, 1, 2, 4, 8, 9] (gB [x0, x1, .val (.int 4), x3, .val (.int 10), x5, x6, x7, x8, x9, x10, x11]) = some [x0, x1, .val (.int 4), .val (.int 10), .val (.tuple [.str "red", .str "red", .str "red", .str "red", .str "red", .str "red", .str "red", .str "red", .str "red", .str "red"]), .val (.tuple [.str "a", .str "b", .str "c", .str "d", .str "e", .str "f", .str "g", .str "h", .str "i", .str "j"])] := by kernel_rfl
theorem B10_5 : okP [0, 1, 2, 4, 8, 9] (gB [x0, x1, .val (.int 5), x3, .val (.int 10), x5, x6, x7, x8, x9, x10, x11]) = some [x0, x1, .val (.int 5), .val (.int 10), .val (.tuple [.str "red", .str "red", .str "red", .str "red", .str "red", .str "red", .str "red", .str "red", .str "red", .str "red"]), .val (.tuple [.str "a", .str "b", .str "c", .str "d", .str "e", .str "f", .str "g", .str "h", .str "i", .str "j"])] := by kernel_rfl
theorem B10_6 : okP [0, 1, 2, 4, 8, 9] (gB [x0, x1, .val (.int 6), x3, .val (.int 10), x5, x6, x7, x8, x9, x10, x11]) = some [x0, x1, .val (.int 6), .val (.int 10), .val (.tuple [.str "red", .str "red", .str "red", .str "red", .str "red", .str "red", .str "red", .str "red", .str "red", .str "red"]), .val (.tuple [.str "a", .str "b", .str "c", .str "d", .str "e", .str "f", .str "g", .str "h", .str "i", .str "j"])] := by kernel_rfl
theorem B10_7 : okP [0, 1, 2, 4, 8, 9] (gB [x0, x1, .val (.int 7), x3, .val (.int 10), x5, x6, x7, x8, x9, x10, x11]) = some [x0, x1, .val (.int 7), .val (.int 10), .val (.tuple [.str "red", .str "red", .str "red", .str "red", .str "red", .str "red", .str "red", .str "red", .str "red", .str "red"]), .val (.tuple [.str "a", .str "b", .str "c", .str "d", .str "e", .str "f", .str "g", .str "h", .str "i", .str "j"])] := by kernel_rfl
theorem B10_8 : okP [0, 1, 2, 4, 8, 9] (gB [x0, x1, .val (.int 8), x3, .val (.int 10), x5, x6, x7, x8, x9, x10, x11]) = some [x0, x1, .val (.int 8), .val (.int 10), .val (.tuple [.str "red", .str "red", .str "red", .str "red", .str "red", .str "red", .str "red", .str "red", .str "red", .str "red"]), .val (.tuple [.str "a", .str "b", .str "c", .str "d", .str "e", .str "f", .str "g", .str "h", .str "i", .str "j"])] := by kernel_rfl
theorem B10_9 : okP [0, 1, 2, 4, 8, 9] (gB [x0, x1, .val (.int 9), x3, .val (.int 10), x5, x6, x7, x8, x9, x10, x11]) = some [x0, x1, .val (.int 9), .val (.int 10), .val (.tuple [.str "red", .str "red", .str "red", .str "red", .str "red", .str "red", .str "red", .str "red", .str "red", .str "red"]), .val (.tuple [.str "a", .str "b", .str "c", .str "d", .str "e", .str "f", .str "g", .str "h", .str "i", .str "j"])] := by kernel_rfl
theorem B10_10 : okP [0, 1, 2, 4, 8, 9] (gB [x0, x1, .val (.int 10), x3, .val (.int 10), x5, x6, x7, x8, x9, x10, x11]) = some [x0, x1, .val (.int 10), .val (.int 10), .val (.tuple [.str "red", .str "red", .str "red", .str "red", .str "red", .str "red", .str "red", .str "red", .str "red", .str "red"]), .val (.tuple [.str "a", .str "b", .str "c", .str "d", .str "e", .str "f", .str "g", .str "h", .str "i", .str "j"])] := by kernel_rfl
theorem B10_11 : okP [0, 1, 2, 4, 8, 9] (gB [x0, x1, .val (.int 11), x3, .val (.int 10), x5, x6, x7, x8, x9, x10, x11]) = some [x0, x1, .val (.int 11), .val (.int 10), .val (.tuple [.str "red", .str "red", .str "red", .str "red", .str "red", .str "red", .str "red", .str "red", .str "red", .str "red"]), .val (.tuple [.str "a", .str "b", .str "c", .str "d", .str "e", .str "f", .str "g", .str "h", .str "i", .str "j"])] := by kernel_rfl
theorem B10_12 : okP [0, 1, 2, 4, 8, 9] (gB [x0, x1, .val (.int 12), x3, .val (.int 10), x5, x6, x7, x8, x9, x10, x11]) = some [x0, x1, .val (.int 12), .val (.int 10), .val (.tuple [.str "red", .str "red", .str "red", .str "red", .str "red", .str "red", .str "red", .str "red", .str "red", .str "red"]), .val (.tuple [.str "a", .str "b", .str "c", .str "d", .str "e", .str "f", .str "g", .str "h", .str "i", .str "j"])] := by kernel_rfl
theorem B10_13 : okP [0, 1, 2, 4, 8, 9] (gB [x0, x1, .val (.int 13), x3, .val (.int 10), x5, x6, x7, x8, x9, x10, x11]) = some [x0, x1, .val (.int 13), .val (.int 10), .val (.tuple [.str "red", .str "red", .str "red", .str "red", .str "red", .str "red", .str "red", .str "red", .str "red", .str "red"]), .val (.tuple [.str "a", .str "b", .str "c", .str "d", .str "e", .str "f", .str "g", .str "h", .str "i", .str "j"])] := by kernel_rfl
theorem B10_14 : okP [0, 1, 2, 4, 8, 9] (gB [x0, x1, .val (.int 14), x3, .val (.int 10), x5, x6, x7, x8, x9, x10, x11]) = some [x0, x1, .val (.int 14), .val (.int 10), .val (.tuple [.str "red", .str "red", .str "red", .str "red", .str "red", .str "red", .str "red", .str "red", .str "red", .str "red"]), .val (.tuple [.str "a", .str "b", .str "c", .str "d", .str "e", .str "f", .str "g", .str "h", .str "i", .str "j"])] := by kernel_rfl
theorem B10_15 : okP [0, 1, 2, 4, 8, 9] (gB [x0, x1, .val (.int 15), x3, .val (.int 10), x5, x6, x7, x8, x9, x10, x11]) = some [x0, x1, .val (.int 15), .val (.int 10), .val (.tuple [.str "red", .str "red", .str "red", .str "red", .str "red", .str "red", .str "red", .str "red", .str "red", .str "red"]), .val (.tuple [.str "a", .str "b", .str "c", .str "d", .str "e", .str "f", .str "g", .str "h", .str "i", .str "j"])] := by kernel_rfl
theorem B10_16 : okP [0, 1, 2, 4, 8, 9] (gB [x0, x1, .val (.int 16), x3, .val (.int 10), x5, x6, x7, x8, x9, x10, x11]) = some [x0, x1, .val (.int 16), .val (.int 10), .val (.tuple [.str "red", .str "red", .str "red", .str "red", .str "red", .str "red", .str "red", .str "red", .str "red", .str "red"]), .val (.tuple [.str "a", .str "b", .str "c", .str "d", .str "e", .str "f", .str "g", .str "h", .str "i", .str "j"])] := by kernel_rfl
theorem B10_17 : okP [0, 1, 2, 4, 8, 9] (gB [x0, x1, .val (.int 17), x3, .val (.int 10), x5, x6, x7, x8, x9, x10, x11]) = some [x0, x1, .val (.int 17), .val (.int 10), .val (.tuple [.str "red", .str "red", .str "red", .str "red", .str "red", .str "red", .str "red", .str "red", .str "red", .str "red"]), .val (.tuple [.str "a", .str "b", .str "c", .str "d", .str "e", .str "f", .str "g", .str "h", .str "i", .str "j"])] := by kernel_rfl
theorem B10_18 : okP [0, 1, 2, 4, 8, 9] (gB [x0, x1, .val (.int 18), x3, .val (.int 10), x5, x6, x7, x8, x9, x10, x11]) = some [x0, x1, .val (.int 18), .val (.int 10), .val (.tuple [.str "red", .str "red", .str "red", .str "red", .str "red", .str "red", .str "red", .str "red", .str "red", .str "red"]), .val (.tuple [.str "a", .str "b", .str "c", .str "d", .str "e", .str "f", .str "g", .str "h", .str "i", .str "j"])] := by kernel_rfl
theorem B10_19 : okP [0, 1, 2, 4, 8, 9] (gB [x0, x1, .val (.int 19), x3, .val (.int 10), x5, x6, x7, x8, x9, x10, x11]) = some [x0, x1, .val (.int 19), .val (.int 10), .val (.tuple [.str "red", .str "red", .str "red", .str "red", .str "red", .str "red", .str "red", .str "red", .str "red", .str "red"]), .val (.tuple [.str "a", .str "b", .str "c", .str "d", .str "e", .str "f", .str "g", .str "h", .str "i", .str "j"])] := by kernel_rfl
theorem B10_20 : okP [0, 1, 2, 4, 8, 9] (gB [x0, x1, .val (.int 20), x3, .val (.int 10), x5, x6, x7, x8, x9, x10, x11]) = some [x0, x1, .val (.int 20), .val (.int 10), .val (.tuple [.str "red", .str "red", .str "red", .str "red", .str "red", .str "red", .str "red", .str "red", .str "red", .str "red"]), .val (.tuple [.str "a", .str "b", .str "c", .str "d", .str "e", .str "f", .str "g", .str "h", .str "i", .str "j"])] := by kernel_rfl
theorem B10 (l : Int) (h : 1 ≤ l ∧ l ≤ 20) : okP [0, 1, 2, 4, 8, 9] (gB [x0, x1, .val (.int l), x3, .val (.int 10), x5, x6, x7, x8, x9, x10, x11]) = some [x0, x1, .val (.int l), .val (.int 10), .val (.tuple [.str "red", .str "red", .str "red", .str "red", .str "red", .str "red", .str "red", .str "red", .str "red", .str "red"]), .val (.tuple [.str "a", .str "b", .str "c", .str "d", .str "e", .str "f", .str "g", .str "h", .str "i", .str "j"])] := by
  have c : l = 1 ∨ l = 2 ∨ l = 3 ∨ l = 4 ∨ l = 5 ∨ l = 6 ∨ l = 7 ∨ l = 8 ∨ l = 9 ∨ l = 10 ∨ l = 11 ∨ l = 12 ∨ l = 13 ∨ l = 14 ∨ l = 15 ∨ l = 16 ∨ l = 17 ∨ l = 18 ∨ l = 19 ∨ l = 20 := by omega
  rcases c with rfl | rfl | rfl | rfl | rfl | rfl | rfl | rfl | rfl | rfl | rfl | rfl | rfl | rfl | rfl | rfl | rfl | rfl | rfl | rfl
  · exact B10_1 _ _ _ _ _ _ _ _ _ _
  · exact B10_2 _ _ _ _ _ _ _ _ _ _
  · exact B10_3 _ _ _ _ _ _ _ _ _ _
  · exact B10_4 _ _ _ _ _ _ _ _ _ _
  · exact B10_5 _ _ _ _ _ _ _ _ _ _
  · exact B10_6 _ _ _ _ _ _ _ _ _ _
  · exact B10_7 _ _ _ _ _ _ _ _ _ _
  · exact B10_8 _ _ _ _ _ _ _ _ _ _
  · exact B10_9 _ _ _ _ _ _ _ _ _ _
  · exact B10_10 _ _ _ _ _ _ _ _ _ _
  · exact B10_11 _ _ _ _ _ _ _ _ _ _
  · exact B10_12 _ _ _ _ _ _ _ _ _ _
  · exact B10_13 _ _ _ _ _ _ _ _ _ _
  · exact B10_14 _ _ _ _ _ _ _ _ _ _
  · exact B10_15 _ _ _ _ _ _ _ _ _ _
  · exact B10_16 _ _ _ _ _ _ _ _ _ _
  · exact B10_17 _ _ _ _ _ _ _ _ _ _
  · exact B10_18 _ _ _ _ _ _ _ _ _ _
  · exact B10_19 _ _ _ _ _ _ _ _ _ _
  · exact B10_20 _ _ _ _ _ _ _ _ _ _
theorem r10 : g_law_3_3 [x0, .val (.list (Ld d)), x2, x3, .val (.int 10), x5, x6, x7, x8, x9, x10, x11] = .nx [x0, .val (.list (Ld d)), x2, x3, .val (.int 10), x5, x6, x7, x8, x9, .val (.int (d 10 % 10)), x11] := by kernel_rfl
theorem S10_0 : okP [0, 1, 2, 4] (g_law_3_4 [x0, x1, x2, x3, .val (.int 10), x5, x6, x7, .val (.tuple [.str "red", .str "red", .str "red", .str "red", .str "red", .str "red", .str "red", .str "red", .str "red", .str "red"]), .val (.tuple [.str "a", .str "b", .str "c", .str "d", .str "e", .str "f", .str "g", .str "h", .str "i", .str "j"]), .val (.int 0), x11]) = some [x0, x1, x2, .val (.int 10)] := by kernel_rfl
theorem S10_1 : okP [0, 1, 2, 4] (g_law_3_4 [x0, x1, x2, x3, .val (.int 10), x5, x6, x7, .val (.tuple [.str "red", .str "red", .str "red", .str "red", .str "red", .str "red", .str "red", .str "red", .str "red", .str "red"]), .val (.tuple [.str "a", .str "b", .str "c", .str "d", .str "e", .str "f", .str "g", .str "h", .str "i", .str "j"]), .val (.int 1), x11]) = some [x0, x1, x2, .val (.int 10)] := by kernel_rfl
theorem S10_2 : okP [0, 1, 2, 4] (g_law_3_4 [x0, x1, x2, x3, .val (.int 10), x5, x6, x7, .val (.tuple [.str "red", .str "red", .str "red", .str "red", .str "red", .str "red", .str "red", .str "red", .str "red", .str "red"]), .val (.tuple [.str "a", .str "b", .str "c", .str "d", .str "e", .str "f", .str "g", .str "h", .str "i", .str "j"]), .val (.int 2), x11]) = some [x0, x1, x2, .val (.int 10)] := by kernel_rfl
theorem S10_3 : okP [0, 1, 2, 4] (g_law_3_4 [x0, x1, x2, x3, .val (.int 10), x5, x6, x7, .val (.tuple [.str "red", .str "red", .str "red", .str "red", .str "red", .str "red", .str "red", .str "red", .str "red", .str "red"]), .val (.tuple [.str "a", .str "b", .str "c", .str "d", .str "e", .str "f", .str "g", .str "h", .str "i", .str "j"]), .val (.int 3), x11]) = some [x0, x1, x2, .val (.int 10)] := by kernel_rfl
theorem S10_4 : okP [0, 1, 2, 4] (g_law_3_4 [x0, x1, x2, x3, .val (.int 10), x5, x6, x7, .val (.tuple [.str "red", .str "red", .str "red", .str "red", .str "red", .str "red", .str "red", .str "red", .str "red", .str "red"]), .val (.tuple [.str "a", .str "b", .str "c", .str "d", .str "e", .str "f", .str "g", .str "h", .str "i", .str "j"]), .val (.int 4), x11]) = some [x0, x1, x2, .val (.int 10)] := by kernel_rfl
theorem S10_5 : okP [0, 1, 2, 4] (g_law_3_4 [x0, x1, x2, x3, .val (.int 10), x5, x6, x7, .val (.tuple [.str "red", .str "red", .str "red", .str "red", .str "red", .str "red", .str "red", .str "red", .str "red", .str "red"]), .val (.tuple [.str "a", .str "b", .str "c", .str "d", .str "e", .str "f", .str "g", .str "h", .str "i", .str "j"]), .val (.int 5), x11]) = some [x0, x1, x2, .val (.int 10)] := by kernel_rfl
theorem S10_6 : okP [0, 1, 2, 4] (g_law_3_4 [x0, x1, x2, x3, .val (.int 10), x5, x6, x7, .val (.tuple [.str "red", .str "red", .str "red", .str "red", .str "red", .str "red", .str "red", .str "red", .str "red", .str "red"]), .val (.tuple [.str "a", .str "b", .str "c", .str "d", .str "e", .str "f", .str "g", .str "h", .str "i", .str "j"]), .val (.int 6), x11]) = some [x0, x1, x2, .val (.int 10)] := by kernel_rfl
theorem S10_7 : okP [0, 1, 2, 4] (g_law_3_4 [x0, x1, x2, x3, .val (.int 10), x5, x6, x7, .val (.tuple [.str "red", .str "red", .str "red", .str "red", .str "red", .str "red", .str "red", .str "red", .str "red", .str "red"]), .val (.tuple [.str "a", .str "b", .str "c", .str "d", .str "e", .str "f", .str "g", .str "h", .str "i", .str "j"]), .val (.int 7), x11]) = some [x0, x1, x2, .val (.int 10)] := by kernel_rfl
theorem S10_8 : okP [0, 1, 2, 4] (g_law_3_4 [x0, x1, x2, x3, .val (.int 10), x5, x6, x7, .val (.tuple [.str "red", .str "red", .str "red", .str "red", .str "red", .str "red", .str "red", .str "red", .str "red", .str "red"]), .val (.tuple [.str "a", .str "b", .str "c", .str "d", .str "e", .str "f", .str "g", .str "h", .str "i", .str "j"]), .val (.int 8), x11]) = some [x0, x1, x2, .val (.int 10)] := by kernel_rfl
theorem S10_9 : okP [0, 1, 2, 4] (g_law_3_4 [x0, x1, x2, x3, .val (.int 10), x5, x6, x7, .val (.tuple [.str "red", .str "red", .str "red", .str "red", .str "red", .str "red", .str "red", .str "red", .str "red", .str "red"]), .val (.tuple [.str "a", .str "b", .str "c", .str "d", .str "e", .str "f", .str "g", .str "h", .str "i", .str "j"]), .val (.int 9), x11]) = some [x0, x1, x2, .val (.int 10)] := by kernel_rfl
theorem S10 (s : Int) (h : 0 ≤ s ∧ s < 10) : okP [0, 1, 2, 4] (g_law_3_4 [x0, x1, x2, x3, .val (.int 10), x5, x6, x7, .val (.tuple [.str "red", .str "red", .str "red", .str "red", .str "red", .str "red", .str "red", .str "red", .str "red", .str "red"]), .val (.tuple [.str "a", .str "b", .str "c", .str "d", .str "e", .str "f", .str "g", .str "h", .str "i", .str "j"]), .val (.int s), x11]) = some [x0, x1, x2, .val (.int 10)] := by
  have c : s = 0 ∨ s = 1 ∨ s = 2 ∨ s = 3 ∨ s = 4 ∨ s = 5 ∨ s = 6 ∨ s = 7 ∨ s = 8 ∨ s = 9 := by omega
  rcases c with rfl | rfl | rfl | rfl | rfl | rfl | rfl | rfl | rfl | rfl
  · exact S10_0 _ _ _ _ _ _ _ _
  · exact S10_1 _ _ _ _ _ _ _ _
  · exact S10_2 _ _ _ _ _ _ _ _
  · exact S10_3 _ _ _ _ _ _ _ _
  · exact S10_4 _ _ _ _ _ _ _ _
  · exact S10_5 _ _ _ _ _ _ _ _
  · exact S10_6 _ _ _ _ _ _ _ _
  · exact S10_7 _ _ _ _ _ _ _ _
  · exact S10_8 _ _ _ _ _ _ _ _
  · exact S10_9 _ _ _ _ _ _ _ _
theorem C10 : okP [0, 1, 2] (gC [x0, x1, x2, x3, .val (.int 10), x5, x6, x7, x8, x9, x10, x11]) = some [x0, x1, x2] := by kernel_rfl
theorem T10 (l : Int) (h : 1 ≤ l ∧ l ≤ 20) : ∃ ρ, gT [x0, .val (.list (Ld d)), .val (.int l), x3, .val (.int 10), x5, x6, x7, x8, x9, x10, x11] = .nx ρ ∧ ρ.length = 12 ∧ [0, 1, 2].map (fun j => ρ.getD j .no) = [x0, .val (.list (Ld d)), .val (.int l)] := by
  rw [gT_eq]
  obtain ⟨ρ1, h1, l1, t1⟩ := okP_of (B10 x0 (.val (.list (Ld d))) x3 x5 x6 x7 x8 x9 x10 x11 l h)
  obtain ⟨y0, y1, y2, y3, y4, y5, y6, y7, y8, y9, y10, y11, rfl⟩ := exp12 l1
  simp only [List.map_cons, List.map_nil, List.getD_cons_zero, List.getD_cons_succ, List.cons.injEq, and_true] at t1
  obtain ⟨rfl, rfl, rfl, rfl, rfl, rfl⟩ := t1
  rw [seq_nx h1, seq_nx (r10 y0 (.val (.int l)) _ _ _ _ _ _ _ _ d)]
  obtain ⟨ρ2, h2, l2, t2⟩ := okP_of (S10 y0 (.val (.list (Ld d))) (.val (.int l)) y3 y5 y6 y7 y11 (d 10 % 10) (by omega))
  obtain ⟨z0, z1, z2, z3, z4, z5, z6, z7, z8, z9, z10, z11, rfl⟩ := exp12 l2
  simp only [List.map_cons, List.map_nil, List.getD_cons_zero, List.getD_cons_succ, List.cons.injEq, and_true] at t2
  obtain ⟨rfl, rfl, rfl, rfl⟩ := t2
  rw [seq_nx h2]
  exact okP_of (C10 _ _ _ _ _ _ _ _ _ _ _)
theorem B11_1 : okP [0, 1, 2, 4, 8, 9] (gB [x0, x1, .val (.int 1), x3, .val (.int 11), x5, x6, x7, x8, x9, x10, x11]) = some [x0, x1, .val (.int 1), .val (.int 11), .val (.tuple [.str "red", .str "red", .str "red", .str "red", .str "red", .str "red", .str "red", .str "red", .str "red", .str "red", .str "red"]), .val (.tuple [.str "a", .str "b", .str "c", .str "d", .str "e", .str "f", .str "g", .str "h", .str "i", .str "j", .str "k"])] := by kernel_rfl
theorem B11_2 : okP [0, 1, 2, 4, 8, 9] (gB [x0, x1, .val (.int 2), x3, .val (.int 11), x5, x6, x7, x8, x9, x10, x11]) = some [x0, x1, .val (.int 2), .val (.int 11), .val (.tuple [.str "red", .str "red", .str "red", .str "red", .str "red", .str "red", .str "red", .str "red", .str "red", .str "red", .str "red"]), .val (.tuple [.str "a", .str "b", .str "c", .str "d", .str "e", .str "f", .str "g", .str "h", .str "i", .str "j", .str "k"])] := by kernel_rfl
theorem B11_3 : okP [0, 1, 2, 4, 8, 9] (gB [x0, x1, .val (.int 3), x3, .val (.int 11), x5, x6, x7, x8, x9, x10, x11]) = some [x0, x1, .val (.int 3), .val (.int 11), .val (.tuple [.str "red", .str "red", .str "red", .str "red", .str "red", .str "red", .str "red", .str "red", .str "red", .str "red", .str "red"]), .val (.tuple [.str "a", .str "b", .str "c", .str "d", .str "e", .str "f", .str "g", .str "h", .str "i", .str "j", .str "k"])] := by kernel_rfl
theorem B11_4 : okP [0, 1, 2, 4, 8, 9] (gB [x0, x1, .val (.int 4), x3, .val (.int 11), x5, x6, x7, x8, x9, x10, x11]) = some [x0, x1, .val (.int 4), .val (.int 11), .val (.tuple [.str "red", .str "red", .str "red", .str "red", .str "red", .str "red", .str "red", .str "red", .str "red", .str "red", .str "red"]), .val (.tuple [.str "a", .str "b", .str "c", .str "d", .str "e", .str "f", .str "g", .str "h", .str "i", .str "j", .str "k"])] := by kernel_rfl
theorem B11_5 : okP [0, 1, 2, 4, 8, 9] (gB [x0, x1, .val (.int 5), x3, .val (.int 11), x5, x6, x7, x8, x9, x10, x11]) = some [x0, x1, .val (.int 5), .val (.int 11), .val (.tuple [.str "red", .str "red", .str "red", .str "red", .str "red", .str "red", .str "red", .str "red", .str "red", .str "red", .str "red"]), .val (.tuple [.str "a", .str "b", .str "c", .str "d", .str "e", .str "f", .str "g", .str "h", .str "i", .str "j", .str "k"])] := by kernel_rfl
theorem B11_6 : okP [0, 1, 2, 4, 8, 9] (gB [x0, x1, .val (.int 6), x3, .val (.int 11), x5, x6, x7, x8, x9, x10, x11]) = some [x0, x1, .val (.int 6), .val (.int 11), .val (.tuple [.str "red", .str "red", .str "red", .str "red", .str "red", .str "red", .str "red", .str "red", .str "red", .str "red", .str "red"]), .val (.tuple [.str "a", .str "b", .str "c", .str "d", .str "e", .str "f", .str "g", .str "h", .str "i", .str "j", .str "k"])] := by kernel_rfl
theorem B11_7 : okP [0, 1, 2, 4, 8, 9] (gB [x0, x1, .val (.int 7), x3, .val (.int 11), x5, x6, x7, x8, x9, x10, x11]) = some [x0, x1, .val (.int 7), .val (.int 11), .val (.tuple [.str "red", .str "red", .str "red", .str "red", .str "red", .str "red", .str "red", .str "red", .str "red", .str "red", .str "red"]), .val (.tuple [.str "a", .str "b", .str "c", .str "d", .str "e", .str "f", .str "g", .str "h", .str "i", .str "j", .str "k"])] := by kernel_rfl
theorem B11_8 : okP [0, 1, 2, 4, 8, 9] (gB [x0, x1, .val (.int 8), x3, .val (.int 11), x5, x6, x7, x8, x9, x10, x11]) = some [x0, x1, .val (.int 8), .val (.int 11), .val (.tuple [.str "red", .str "red", .str "red", .str "red", .str "red", .str "red", .str "red", .str "red", .str "red", .str "red", .str "red"]), .val (.tuple [.str "a", .str "b", .str "c", .str "d", .str "e", .str "f", .str "g", .str "h", .str "i", .str "j", .str "k"])] := by kernel_rfl
theorem B11_9 : okP [0, 1, 2, 4, 8, 9] (gB [x0, x1, .val (.int 9), x3, .val (.int 11), x5, x6, x7, x8, x9, x10, x11]) = some [x0, x1, .val (.int 9), .val (.int 11), .val (.tuple [.str "red", .str "red", .str "red", .str "red", .str "red", .str "red", .str "red", .str "red", .str "red", .str "red", .str "red"]), .val (.tuple [.str "a", .str "b", .str "c", .str "d", .str "e", .str "f", .str "g", .str "h", .str "i", .str "j", .str "k"])] := by kernel_rfl
theorem B11_10 : okP [0, 1, 2, 4, 8, 9] (gB [x0, x1, .val (.int 10), x3, .val (.int 11), x5, x6, x7, x8, x9, x10, x11]) = some [x0, x1, .val (.int 10), .val (.int 11), .val (.tuple [.str "red", .str "red", .str "red", .str "red", .str "red", .str "red", .str "red", .str "red", .str "red", .str "red", .str "red"]), .val (.tuple [.str "a", .str "b", .str "c", .str "d", .str "e", .str "f", .str "g", .str "h", .str "i", .str "j", .str "k"])] := by kernel_rfl
theorem B11_11 : okP [0, 1, 2, 4, 8, 9] (gB [x0, x1, .val (.int 11), x3, .val (.int 11), x5, x6, x7, x8, x9, x10, x11]) = some [x0, x1, .val (.int 11), .val (.int 11), .val (.tuple [.str "red", .str "red", .str "red", .str "red", .str "red", .str "red", .str "red", .str "red", .str "red", .str "red", .str "red"]), .val (.tuple [.str "a", .str "b", .str "c", .str "d", .str "e", .str "f", .str "g", .str "h", .str "i", .str "j", .str "k"])] := by kernel_rfl
theorem B11_12 : okP [0, 1, 2, 4, 8, 9] (gB [x0, x1, .val (.int 12), x3, .val (.int 11), x5, x6, x7, x8, x9, x10, x11]) = some [x0, x1, .val (.int 12), .val (.int 11), .val (.tuple [.str "red", .str "red", .str "red", .str "red", .str "red", .str "red", .str "red", .str "red", .str "red", .str "red", .str "red"]), .val (.tuple [.str "a", .str "b", .str "c", .str "d", .str "e", .str "f", .str "g", .str "h", .str "i", .str "j", .str "k"])] := by kernel_rfl
theorem B11_13 : okP [0, 1, 2, 4, 8, 9] (gB [x0, x1, .val (.int 13), x3, .val (.int 11), x5, x6, x7, x8, x9, x10, x11]) = some [x0, x1, .val (.int 13), .val (.int 11), .val (.tuple [.str "red", .str "red", .str "red", .str "red", .str "red", .str "red", .str "red", .str "red", .str "red", .str "red", .str "red"]), .val (.tuple [.str "a", .str "b", .str "c", .str "d", .str "e", .str "f", .str "g", .str "h", .str "i", .str "j", .str "k"])] := by kernel_rfl
theorem B11_14 : okP [0, 1, 2, 4, 8, 9] (gB [x0, x1, .val (.int 14), x3, .val (.int 11), x5, x6, x7, x8, x9, x10, x11]) = some [x0, x1, .val (.int 14), .val (.int 11), .val (.tuple [.str "red", .str "red", .str "red", .str "red", .str "red", .str "red", .str "red", .str "red", .str "red", .str "red", .str "red"]), .val (.tuple [.str "a", .str "b", .str "c", .str "d", .str "e", .str "f", .str "g", .str "h", .str "i", .str "j", .str "k"])] := by kernel_rfl
theorem B11_15 : okP [0, 1, 2, 4, 8, 9] (gB [x0, x1, .val (.int 15), x3, .val (.int 11), x5, x6, x7, x8, x9, x10, x11]) = some [x0, x1, .val (.int 15), .val (.int 11), .val (.tuple [.str "red", .str "red", .str "red", .str "red", .str "red", .str "red", .str "red", .str "red", .str "red", .str "red", .str "red"]), .val (.tuple [.str "a", .str "b", .str "c", .str "d", .str "e", .str "f", .str "g", .str "h", .str "i", .str "j", .str "k"])] := by kernel_rfl
theorem B11_16 : okP [0, 1, 2, 4, 8, 9] (gB [x0, x1, .val (.int 16), x3, .val (.int 11), x5, x6, x7, x8, x9, x10, x11]) = some [x0, x1, .val (.int 16), .val (.int 11), .val (.tuple [.str "red", .str "red", .str "red", .str "red", .str "red", .str "red", .str "red", .str "red", .str "red", .str "red", .str "red"]), .val (.tuple [.str "a", .str "b", .str "c", .str "d", .str "e", .str "f", .str "g", .str "h", .str "i", .str "j", .str "k"])] := by kernel_rfl
theorem B11_17 : okP [0, 1, 2, 4, 8, 9] (gB [x0, x1, .val (.int 17), x3, .val (.int 11), x5, x6, x7, x8, x9, x10, x11]) = some [x0, x1, .val (.int 17), .val (.int 11), .val (.tuple [.str "red", .str "red", .str "red", .str "red", .str "red", .str "red", .str "red", .str "red", .str "red", .str "red", .str "red"]), .val (.tuple [.str "a", .str "b", .str "c", .str "d", .str "e", .str "f", .str "g", .str "h", .str "i", .str "j", .str "k"])] := by kernel_rfl
theorem B11_18 : okP [0, 1, 2, 4, 8, 9] (gB [x0, x1, .val (.int 18), x3, .val (.int 11), x5, x6, x7, x8, x9, x10, x11]) = some [x0, x1, .val (.int 18), .val (.int 11), .val (.tuple [.str "red", .str "red", .str "red", .str "red", .str "red", .str "red", .str "red", .str "red", .str "red", .str "red", .str "red"]), .val (.tuple [.str "a", .str "b", .str "c", .str "d", .str "e", .str "f", .str "g", .str "h", .str "i", .str "j", .str "k"])] := by kernel_rfl
theorem B11_19 : okP [0, 1, 2, 4, 8, 9] (gB [x0, x1, .val (.int 19), x3, .val (.int 11), x5, x6, x7, x8, x9, x10, x11]) = some [x0, x1, .val (.int 19), .val (.int 11), .val (.tuple [.str "red", .str "red", .str "red", .str "red", .str "red", .str "red", .str "red", .str "red", .str "red", .str "red", .str "red"]), .val (.tuple [.str "a", .str "b", .str "c", .str "d", .str "e", .str "f", .str "g", .str "h", .str "i", .str "j", .str "k"])] := by kernel_rfl
theorem B11_20 : okP [0, 1, 2, 4, 8, 9] (gB [x0, x1, .val (.int 20), x3, .val (.int 11), x5, x6, x7, x8, x9, x10, x11]) = some [x0, x1, .val (.int 20), .val (.int 11), .val (.tuple [.str "red", .str "red", .str "red", .str "red", .str "red", .str "red", .str "red", .str "red", .str "red", .str "red", .str "red"]), .val (.tuple [.str "a", .str "b", .str "c", .str "d", .str "e", .str "f", .str "g", .str "h", .str "i", .str "j", .str "k"])] := by kernel_rfl
theorem B11 (l : Int) (h : 1 ≤ l ∧ l ≤ 20) : okP [0, 1, 2, 4, 8, 9] (gB [x0, x1, .val (.int l), x3, .val (.int 11), x5, x6, x7, x8, x9, x10, x11]) = some [x0, x1, .val (.int l), .val (.int 11), .val (.tuple [.str "red", .str "red", .str "red", .str "red", .str "red", .str "red", .str "red", .str "red", .str "red", .str "red", .str "red"]), .val (.tuple [.str "a", .str "b", .str "c", .str "d", .str "e", .str "f", .str "g", .str "h", .str "i", .str "j", .str "k"])] := by
  have c : l = 1 ∨ l = 2 ∨ l = 3 ∨ l = 4 ∨ l = 5 ∨ l = 6 ∨ l = 7 ∨ l = 8 ∨ l = 9 ∨ l = 10 ∨ l = 11 ∨ l = 12 ∨ l = 13 ∨ l = 14 ∨ l = 15 ∨ l = 16 ∨ l = 17 ∨ l = 18 ∨ l = 19 ∨ l = 20 := by omega
  rcases c with rfl | rfl | rfl | rfl | rfl | rfl | rfl | rfl | rfl | rfl | rfl | rfl | rfl | rfl | rfl | rfl | rfl | rfl | rfl | rfl
  · exact B11_1 _ _ _ _ _ _ _ _ _ _
  · exact B11_2 _ _ _ _ _ _ _ _ _ _
  · exact B11_3 _ _ _ _ _ _ _ _ _ _
  · exact B11_4 _ _ _ _ _ _ _ _ _ _
  · exact B11_5 _ _ _ _ _ _ _ _ _ _
  · exact B11_6 _ _ _ _ _ _ _ _ _ _
  · exact B11_7 _ _ _ _ _ _ _ _ _ _
  · exact B11_8 _ _ _ _ _ _ _ _ _ _
  · exact B11_9 _ _ _ _ _ _ _ _ _ _
  · exact B11_10 _ _ _ _ _ _ _ _ _ _
  · exact B11_11 _ _ _ _ _ _ _ _ _ _
  · exact B11_12 _ _ _ _ _ _ _ _ _ _
  · exact B11_13 _ _ _ _ _ _ _ _ _ _
  · exact B11_14 _ _ _ _ _ _ _ _ _ _
  · exact B11_15 _ _ _ _ _ _ _ _ _ _
  · exact B11_16 _ _ _ _ _ _ _ _ _ _
  · exact B11_17 _ _ _ _ _ _ _ _ _ _
  · exact B11_18 _ _ _ _ _ _ _ _ _ _
  · exact B11_19 _ _ _ _ _ _ _ _ _ _
  · exact B11_20 _ _ _ _ _ _ _ _ _ _
theorem r11 : g_law_3_3 [x0, .val (.list (Ld d)), x2, x3, .val (.int 11), x5, x6, x7, x8, x9, x10, x11] = .nx [x0, .val (.list (Ld d)), x2, x3, .val (.int 11), x5, x6, x7, x8, x9, .val (.int (d 11 % 11)), x11] := by kernel_rfl
theorem S11_0 : okP [0, 1, 2, 4] (g_law_3_4 [x0, x1, x2, x3, .val (.int 11), x5, x6, x7, .val (.tuple [.str "red", .str "red", .str "red", .str "red", .str "red", .str "red", .str "red", .str "red", .str "red", .str "red", .str "red"]), .val (.tuple [.str "a", .str "b", .str "c", .str "d", .str "e", .str "f", .str "g", .str "h", .str "i", .str "j", .str "k"]), .val (.int 0), x11]) = some [x0, x1, x2, .val (.int 11)] := by kernel_rfl
theorem S11_1 : okP [0, 1, 2, 4] (g_law_3_4 [x0, x1, x2, x3, .val (.int 11), x5, x6, x7, .val (.tuple [.str "red", .str "red", .str "red", .str "red", .str "red", .str "red", .str "red", .str "red", .str "red", .str "red", .str "red"]), .val (.tuple [.str "a", .str "b", .str "c", .str "d", .str "e", .str "f", .str "g", .str "h", .str "i", .str "j", .str "k"]), .val (.int 1), x11]) = some [x0, x1, x2, .val (.int 11)] := by kernel_rfl
theorem S11_2 : okP [0, 1, 2, 4] (g_law_3_4 [x0, x1, x2, x3, .val (.int 11), x5, x6, x7, .val (.tuple [.str "red", .str "red", .str "red", .str "red", .str "red", .str "red", .str "red", .str "red", .str "red", .str "red", .str "red"]), .val (.tuple [.str "a", .str "b", .str "c", .str "d", .str "e", .str "f", .str "g", .str "h", .str "i", .str "j", .str "k"]), .val (.int 2), x11]) = some [x0, x1, x2, .val (.int 11)] := by kernel_rfl
theorem S11_3 : okP [0, 1, 2, 4] (g_law_3_4 [x0, x1, x2, x3, .val (.int 11), x5, x6, x7, .val (.tuple [.str "red", .str "red", .str "red", .str "red", .str "red", .str "red", .str "red", .str "red", .str "red", .str "red", .str "red"]), .val (.tuple [.str "a", .str "b", .str "c", .str "d", .str "e", .str "f", .str "g", .str "h", .str "i", .str "j", .str "k"]), .val (.int 3), x11]) = some [x0, x1, x2, .val (.int 11)] := by kernel_rfl
theorem S11_4 : okP [0, 1, 2, 4] (g_law_3_4 [x0, x1, x2, x3, .val (.int 11), x5, x6, x7, .val (.tuple [.str "red", .str "red", .str "red", .str "red", .str "red", .str "red", .str "red", .str "red", .str "red", .str "red", .str "red"]), .val (.tuple [.str "a", .str "b", .str "c", .str "d", .str "e", .str "f", .str "g", .str "h", .str "i", .str "j", .str "k"]), .val (.int 4), x11]) = some [x0, x1, x2, .val (.int 11)] := by kernel_rfl
theorem S11_5 : okP [0, 1, 2, 4] (g_law_3_4 [x0, x1, x2, x3, .val (.int 11), x5, x6, x7, .val (.tuple [.str "red", .str "red", .str "red", .str "red", .str "red", .str "red", .str "red", .str "red", .str "red", .str "red", .str "red"]), .val (.tuple [.str "a", .str "b", .str "c", .str "d", .str "e", .str "f", .str "g", .str "h", .str "i", .str "j", .str "k"]), .val (.int 5), x11]) = some [x0, x1, x2, .val (.int 11)] := by kernel_rfl
theorem S11_6 : okP [0, 1, 2, 4] (g_law_3_4 [x0, x1, x2, x3, .val (.int 11), x5, x6, x7, .val (.tuple [.str "red", .str "red", .str "red", .str "red", .str "red", .str "red", .str "red", .str "red", .str "red", .str "red", .str "red"]), .val (.tuple [.str "a", .str "b", .str "c", .str "d", .str "e", .str "f", .str "g", .str "h", .str "i", .str "j", .str "k"]), .val (.int 6), x11]) = some [x0, x1, x2, .val (.int 11)] := by kernel_rfl
theorem S11_7 : okP [0, 1, 2, 4] (g_law_3_4 [x0, x1, x2, x3, .val (.int 11), x5, x6, x7, .val (.tuple [.str "red", .str "red", .str "red", .str "red", .str "red", .str "red", .str "red", .str "red", .str "red", .str "red", .str "red"]), .val (.tuple [.str "a", .str "b", .str "c", .str "d", .str "e", .str "f", .str "g", .str "h", .str "i", .str "j", .str "k"]), .val (.int 7), x11]) = some [x0, x1, x2, .val (.int 11)] := by kernel_rfl
theorem S11_8 : okP [0, 1, 2, 4] (g_law_3_4 [x0, x1, x2, x3, .val (.int 11), x5, x6, x7, .val (.tuple [.str "red", .str "red", .str "red", .str "red", .str "red", .str "red", .str "red", .str "red", .str "red", .str "red", .str "red"]), .val (.tuple [.str "a", .str "b", .str "c", .str "d", .str "e", .str "f", .str "g", .str "h", .str "i", .str "j", .str "k"]), .val (.int 8), x11]) = some [x0, x1, x2, .val (.int 11)] := by kernel_rfl
theorem S11_9 : okP [0, 1, 2, 4] (g_law_3_4 [x0, x1, x2, x3, .val (.int 11), x5, x6, x7, .val (.tuple [.str "red", .str "red", .str "red", .str "red", .str "red", .str "red", .str "red", .str "red", .str "red", .str "red", .str "red"]), .val (.tuple [.str "a", .str "b", .str "c", .str "d", .str "e", .str "f", .str "g", .str "h", .str "i", .str "j", .str "k"]), .val (.int 9), x11]) = some [x0, x1, x2, .val (.int 11)] := by kernel_rfl
theorem S11_10 : okP [0, 1, 2, 4] (g_law_3_4 [x0, x1, x2, x3, .val (.int 11), x5, x6, x7, .val (.tuple [.str "red", .str "red", .str "red", .str "red", .str "red", .str "red", .str "red", .str "red", .str "red", .str "red", .str "red"]), .val (.tuple [.str "a", .str "b", .str "c", .str "d", .str "e", .str "f", .str "g", .str "h", .str "i", .str "j", .str "k"]), .val (.int 10), x11]) = some [x0, x1, x2, .val (.int 11)] := by kernel_rfl
theorem S11 (s : Int) (h : 0 ≤ s ∧ s < 11) : okP [0, 1, 2, 4] (g_law_3_4 [x0, x1, x2, x3, .val (.int 11), x5, x6, x7, .val (.tuple [.str "red", .str "red", .str "red", .str "red", .str "red", .str "red", .str "red", .str "red", .str "red", .str "red", .str "red"]), .val (.tuple [.str "a", .str "b", .str "c", .str "d", .str "e", .str "f", .str "g", .str "h", .str "i", .str "j", .str "k"]), .val (.int s), x11]) = some [x0, x1, x2, .val (.int 11)] := by
  have c : s = 0 ∨ s = 1 ∨ s = 2 ∨ s = 3 ∨ s = 4 ∨ s = 5 ∨ s = 6 ∨ s = 7 ∨ s = 8 ∨ s = 9 ∨ s = 10 := by omega
  rcases c with rfl | rfl | rfl | rfl | rfl | rfl | rfl | rfl | rfl | rfl | rfl
  · exact S11_0 _ _ _ _ _ _ _ _
  · exact S11_1 _ _ _ _ _ _ _ _
  · exact S11_2 _ _ _ _ _ _ _ _
  · exact S11_3 _ _ _ _ _ _ _ _
  · exact S11_4 _ _ _ _ _ _ _ _
  · exact S11_5 _ _ _ _ _ _ _ _
  · exact S11_6 _ _ _ _ _ _ _ _
  · exact S11_7 _ _ _ _ _ _ _ _
  · exact S11_8 _ _ _ _ _ _ _ _
  · exact S11_9 _ _ _ _ _ _ _ _
  · exact S11_10 _ _ _ _ _ _ _ _
theorem C11 : okP [0, 1, 2] (gC [x0, x1, x2, x3, .val (.int 11), x5, x6, x7, x8, x9, x10, x11]) = some [x0, x1, x2] := by kernel_rfl
theorem T11 (l : Int) (h : 1 ≤ l ∧ l ≤ 20) : ∃ ρ, gT [x0, .val (.list (Ld d)), .val (.int l), x3, .val (.int 11), x5, x6, x7, x8, x9, x10, x11] = .nx ρ ∧ ρ.length = 12 ∧ [0, 1, 2].map (fun j => ρ.getD j .no) = [x0, .val (.list (Ld d)), .val (.int l)] := by
  rw [gT_eq]
  obtain ⟨ρ1, h1, l1, t1⟩ := okP_of (B11 x0 (.val (.list (Ld d))) x3 x5 x6 x7 x8 x9 x10 x11 l h)
  obtain ⟨y0, y1, y2, y3, y4, y5, y6, y7, y8, y9, y10, y11, rfl⟩ := exp12 l1
  simp only [List.map_cons, List.map_nil, List.getD_cons_zero, List.getD_cons_succ, List.cons.injEq, and_true] at t1
  obtain ⟨rfl, rfl, rfl, rfl, rfl, rfl⟩ := t1
  rw [seq_nx h1, seq_nx (r11 y0 (.val (.int l)) _ _ _ _ _ _ _ _ d)]
  obtain ⟨ρ2, h2, l2, t2⟩ := okP_of (S11 y0 (.val (.list (Ld d))) (.val (.int l)) y3 y5 y6 y7 y11 (d 11 % 11) (by omega))
  obtain ⟨z0, z1, z2, z3, z4, z5, z6, z7, z8, z9, z10, z11, rfl⟩ := exp12 l2
  simp only [List.map_cons, List.map_nil, List.getD_cons_zero, List.getD_cons_succ, List.cons.injEq, and_true] at t2
  obtain ⟨rfl, rfl, rfl, rfl⟩ := t2
  rw [seq_nx h2]
  exact okP_of (C11 _ _ _ _ _ _ _ _ _ _ _)
theorem B12_1 : okP [0, 1, 2, 4, 8, 9] (gB [x0, x1, .val (.int 1), x3, .val (.int 12), x5, x6, x7, x8, x9, x10, x11]) = some [x0, x1, .val (.int 1), .val (.int 12), .val (.tuple [.str "red", .str "red", .str "red", .str "red", .str "red", .str "red", .str "red", .str "red", .str "red", .str "red", .str "red", .str "red"]), .val (.tuple [.str "a", .str "b", .str "c", .str "d", .str "e", .str "f", .str "g", .str "h", .str "i", .str "j", .str "k", .str "l"])] := by kernel_rfl
theorem B12_2 : okP [0, 1, 2, 4, 8, 9] (gB [x0, x1, .val (.int 2), x3, .val (.int 12), x5, x6, x7, x8, x9, x10, x11]) = some [x0, x1, .val (.int 2), .val (.int 12), .val (.tuple [.str "red", .str "red", .str "red", .str "red", .str "red", .str "red", .str "red", .str "red", .str "red", .str "red", .str "red", .str "red"]), .val (.tuple [.str "a", .str "b", .str "c", .str "d", .str "e", .str "f", .str "g", .str "h", .str "i", .str "j", .str "k", .str "l"])] := by kernel_rfl
theorem B12_3 : okP [0, 1, 2, 4, 8, 9] (gB [x0, x1, .val (.int 3), x3, .val (.int 12), x5, x6, x7, x8, x9, x10, x11]) = some [x0, x1, .val (.int 3), .val (.int 12), .val (.tuple [.str "red", .str "red", .str "red", .str "red", .str "red", .str "red", .str "red", .str "red", .str "red", .str "red", .str "red", .str "red"]), .val (.tuple [.str "a", .str "b", .str "c", .str "d", .str "e", .str "f", .str "g", .str "h", .str "i", .str "j", .str "k", .str "l"])] := by kernel_rfl
theorem B12_4 : okP [0, 1, 2, 4, 8, 9] (gB [x0, x1, .val (.int 4), x3, .val (.int 12), x5, x6, x7, x8, x9, x10, x11]) = some [x0, x1, .val (.int 4), .val (.int 12), .val (.tuple [.str "red", .str "red", .str "red", .str "red", .str "red", .str "red", .str "red", .str "red", .str "red", .str "red", .str "red", .str "red"]), .val (.tuple [.str "a", .str "b", .str "c", .str "d", .str "e", .str "f", .str "g", .str "h", .str "i", .str "j", .str "k", .str "l"])] := by kernel_rfl
theorem B12_5 : okP [0, 1, 2, 4, 8, 9] (gB [x0, x1, .val (.int 5), x3, .val (.int 12), x5, x6, x7, x8, x9, x10, x11]) = some [x0, x1, .val (.int 5), .val (.int 12), .val (.tuple [.str "red", .str "red", .str "red", .str "red", .str "red", .str "red", .str "red", .str "red", .str "red", .str "red", .str "red", .str "red"]), .val (.tuple [.str "a", .str "b", .str "c", .str "d", .str "e", .str "f", .str "g", .str "h", .str "i", .str "j", .str "k", .str "l"])] := by kernel_rfl
theorem B12_6 : okP [0, 1, 2, 4, 8, 9] (gB [x0, x1, .val (.int 6), x3, .val (.int 12), x5, x6, x7, x8, x9, x10, x11]) = some [x0, x1, .val (.int 6), .val (.int 12), .val (.tuple [.str "red", .str "red", .str "red", .str "red", .str "red", .str "red", .str "red", .str "red", .str "red", .str "red", .str "red", .str "red"]), .val (.tuple [.str "a", .str "b", .str "c", .str "d", .str "e", .str "f", .str "g", .str "h", .str "i", .str "j", .str "k", .str "l"])] := by kernel_rfl
theorem B12_7 : okP [0, 1, 2, 4, 8, 9] (gB [x0, x1, .val (.int 7), x3, .val (.int 12), x5, x6, x7, x8, x9, x10, x11]) = some [x0, x1, .val (.int 7), .val (.int 12), .val (.tuple [.str "red", .str "red", .str "red", .str "red", .str "red", .str "red", .str "red", .str "red", .str "red", .str "red", .str "red", .str "red"]), .val (.tuple [.str "a", .str "b", .str "c", .str "d", .str "e", .str "f", .str "g", .str "h", .str "i", .str "j", .str "k", .str "l"])] := by kernel_rfl
theorem B12_8 : okP [0, 1, 2, 4, 8, 9] (gB [x0, x1, .val (.int 8), x3, .val (.int 12), x5, x6, x7, x8, x9, x10, x11]) = some [x0, x1, .val (.int 8), .val (.int 12), .val (.tuple [.str "red", .str "red", .str "red", .str "red", .str "red", .str "red", .str "red", .str "red", .str "red", .str "red", .str "red", .str "red"]), .val (.tuple [.str "a", .str "b", .str "c", .str "d", .str "e", .str "f", .str "g", .str "h", .str "i", .str "j", .str "k", .str "l"])] := by kernel_rfl
theorem B12_9 : okP [0, 1, 2, 4, 8, 9] (gB [x0, x1, .val (.int 9), x3, .val (.int 12), x5, x6, x7, x8, x9, x10, x11]) = some [x0, x1, .val (.int 9), .val (.int 12), .val (.tuple [.str "red", .str "red", .str "red", .str "red", .str "red", .str "red", .str "red", .str "red", .str "red", .str "red", .str "red", .str "red"]), .val (.tuple [.str "a", .str "b", .str "c", .str "d", .str "e", .str "f", .str "g", .str "h", .str "i", .str "j", .str "k", .str "l"])] := by kernel_rfl
theorem B12_10 : okP [0, 1, 2, 4, 8, 9] (gB [x0, x1, .val (.int 10), x3, .val (.int 12), x5, x6, x7, x8, x9, x10, x11]) = some [x0, x1, .val (.int 10), .val (.int 12), .val (.tuple [.str "red", .str "red", .str "red", .str "red", .str "red", .str "red", .str "red", .str "red", .str "red", .str "red", .str "red", .str "red"]), .val (.tuple [.str "a", .str "b", .str "c", .str "d", .str "e", .str "f", .str "g", .str "h", .str "i", .str "j", .str "k", .str "l"])] := by kernel_rfl
theorem B12_11 : okP [0, 1, 2, 4, 8, 9] (gB [x0, x1, .val (.int 11), x3, .val (.int 12), x5, x6, x7, x8, x9, x10, x11]) = some [x0, x1, .val (.int 11), .val (.int 12), .val (.tuple [.str "red", .str "red", .str "red", .str "red", .str "red", .str "red", .str "red", .str "red", .str "red", .str "red", .str "red", .str "red"]), .val (.tuple [.str "a", .str "b", .str "c", .str "d", .str "e", .str "f", .str "g", .str "h", .str "i", .str "j", .str "k", .str "l"])] := by kernel_rfl
theorem B12_12 : okP [0, 1, 2, 4, 8, 9] (gB [x0, x1, .val (.int 12), x3, .val (.int 12), x5, x6, x7, x8, x9, x10, x11]) = some [x0, x1, .val (.int 12), .val (.int 12), .val (.tuple [.str "red", .str "red", .str "red", .str "red", .str "red", .str "red", .str "red", .str "red", .str "red", .str "red", .str "red", .str "red"]), .val (.tuple [.str "a", .str "b", .str "c", .str "d", .str "e", .str "f", .str "g", .str "h", .str "i", .str "j", .str "k", .str "l"])] := by kernel_rfl
theorem B12_13 : okP [0, 1, 2, 4, 8, 9] (gB [x0, x1, .val (.int 13), x3, .val (.int 12), x5, x6, x7, x8, x9, x10, x11]) = some [x0, x1, .val (.int 13), .val (.int 12), .val (.tuple [.str "red", .str "red", .str "red", .str "red", .str "red", .str "red", .str "red", .str "red", .str "red", .str "red", .str "red", .str "red"]), .val (.tuple [.str "a", .str "b", .str "c", .str "d", .str "e", .str "f", .str "g", .str "h", .str "i", .str "j", .str "k", .str "l"])] := by kernel_rfl
theorem B12_14 : okP [0, 1, 2, 4, 8, 9] (gB [x0, x1, .val (.int 14), x3, .val (.int 12), x5, x6, x7, x8, x9, x10, x11]) = some [x0, x1, .val (.int 14), .val (.int 12), .val (.tuple [.str "red", .str "red", .str "red", .str "red", .str "red", .str "red", .str "red", .str "red", .str "red", .str "red", .str "red", .str "red"]), .val (.tuple [.str "a", .str "b", .str "c", .str "d", .str "e", .str "f", .str "g", .str "h", .str "i", .str "j", .str "k", .str "l"])] := by kernel_rfl
theorem B12_15 : okP [0, 1, 2, 4, 8, 9] (gB [x0, x1, .val (.int 15), x3, .val (.int 12), x5, x6, x7, x8, x9, x10, x11]) = some [x0, x1, .val (.int 15), .val (.int 12), .val (.tuple [.str "red", .str "red", .str "red", .str "red", .str "red", .str "red", .str "red", .str "red", .str "red", .str "red", .str "red", .str "red"]), .val (.tuple [.str "a", .str "b", .str "c", .str "d", .str "e", .str "f", .str "g", .str "h", .str "i", .str "j", .str "k", .str "l"])] := by kernel_rfl
theorem B12_16 : okP [0, 1, 2, 4, 8, 9] (gB [x0, x1, .val (.int 16), x3, .val (.int 12), x5, x6, x7, x8, x9, x10, x11]) = some [x0, x1, .val (.int 16), .val (.int 12), .val (.tuple [.str "red", .str "red", .str "red", .str "red", .str "red", .str "red", .str "red", .str "red", .str "red", .str "red", .str "red", .str "red"]), .val (.tuple [.str "a", .str "b", .str "c", .str "d", .str "e", .str "f", .str "g", .str "h", .str "i", .str "j", .str "k", .str "l"])] := by kernel_rfl
theorem B12_17 : okP [0, 1, 2, 4, 8, 9] (gB [x0, x1, .val (.int 17), x3, .val (.int 12), x5, x6, x7, x8, x9, x10, x11]) = some [x0, x1, .val (.int 17), .val (.int 12), .val (.tuple [.str "red", .str "red", .str "red", .str "red", .str "red", .str "red", .str "red", .str "red", .str "red", .str "red", .str "red", .str "red"]), .val (.tuple [.str "a", .str "b", .str "c", .str "d", .str "e", .str "f", .str "g", .str "h", .str "i", .str "j", .str "k", .str "l"])] := by kernel_rfl
theorem B12_18 : okP [0, 1, 2, 4, 8, 9] (gB [x0, x1, .val (.int 18), x3, .val (.int 12), x5, x6, x7, x8, x9, x10, x11]) = some [x0, x1, .val (.int 18), .val (.int 12), .val (.tuple [.str "red", .str "red", .str "red", .str "red", .str "red", .str "red", .str "red", .str "red", .str "red", .str "red", .str "red", .str "red"]), .val (.tuple [.str "a", .str "b", .str "c", .str "d", .str "e", .str "f", .str "g", .str "h", .str "i", .str "j", .str "k", .str "l"])] := by kernel_rfl
theorem B12_19 : okP [0, 1, 2, 4, 8, 9] (gB [x0, x1, .val (.int 19), x3, .val (.int 12), x5, x6, x7, x8, x9, x10, x11]) = some [x0, x1, .val (.int 19), .val (.int 12), .val (.tuple [.str "red", .str "red", .str "red", .str "red", .str "red", .str "red", .str "red", .str "red", .str "red", .str "red", .str "red", .str "red"]), .val (.tuple [.str "a", .str "b", .str "c", .str "d", .str "e", .str "f", .str "g", .str "h", .str "i", .str "j", .str "k", .str "l"])] := by kernel_rfl
theorem B12_20 : okP [0, 1, 2, 4, 8, 9] (gB [x0, x1, .val (.int 20), x3, .val (.int 12), x5, x6, x7, x8, x9, x10, x11]) = some [x0, x1, .val (.int 20), .val (.int 12), .val (.tuple [.str "red", .str "red", .str "red", .str "red", .str "red", .str "red", .str "red", .str "red", .str "red", .str "red", .str "red", .str "red"]), .val (.tuple [.str "a", .str "b", .str "c", .str "d", .str "e", .str "f", .str "g", .str "h", .str "i", .str "j", .str "k", .str "l"])] := by kernel_rfl
theorem B12 (l : Int) (h : 1 ≤ l ∧ l ≤ 20) : okP [0, 1, 2, 4, 8, 9] (gB [x0, x1, .val (.int l), x3, .val (.int 12), x5, x6, x7, x8, x9, x10, x11]) = some [x0, x1, .val (.int l), .val (.int 12), .val (.tuple [.str "red", .str "red", .str "red", .str "red", .str "red", .str "red", .str "red", .str "red", .str "red", .str "red", .str "red", .str "red"]), .val (.tuple [.str "a", .str "b", .str "c", .str "d", .str "e", .str "f", .str "g", .str "h", .str "i", .str "j", .str "k", .str "l"])] := by
  have c : l = 1 ∨ l = 2 ∨ l = 3 ∨ l = 4 ∨ l = 5 ∨ l = 6 ∨ l = 7 ∨ l = 8 ∨ l = 9 ∨ l = 10 ∨ l = 11 ∨ l = 12 ∨ l = 13 ∨ l = 14 ∨ l = 15 ∨ l = 16 ∨ l = 17 ∨ l = 18 ∨ l = 19 ∨ l = 20 := by omega
  rcases c with rfl | rfl | rfl | rfl | rfl | rfl | rfl | rfl | rfl | rfl | rfl | rfl | rfl | rfl | rfl | rfl | rfl | rfl | rfl | rfl
  · exact B12_1 _ _ _ _ _ _ _ _ _ _
  · exact B12_2 _ _ _ _ _ _ _ _ _ _
  · exact B12_3 _ _ _ _ _ _ _ _ _ _
  · exact B12_4 _ _ _ _ _ _ _ _ _ _
  · exact B12_5 _ _ _ _ _ _ _ _ _ _
  · exact B12_6 _ _ _ _ _ _ _ _ _ _
  · exact B12_7 _ _ _ _ _ _ _ _ _ _
  · exact B12_8 _ _ _ _ _ _ _ _ _ _
  · exact B12_9 _ _ _ _ _ _ _ _ _ _
  · exact B12_10 _ _ _ _ _ _ _ _ _ _
  · exact B12_11 _ _ _ _ _ _ _ _ _ _
  · exact B12_12 _ _ _ _ _ _ _ _ _ _
  · exact B12_13 _ _ _ _ _ _ _ _ _ _
  · exact B12_14 _ _ _ _ _ _ _ _ _ _
  · exact B12_15 _ _ _ _ _ _ _ _ _ _
  · exact B12_16 _ _ _ _ _ _ _ _ _ _
  · exact B12_17 _ _ _ _ _ _ _ _ _ _
  · exact B12_18 _ _ _ _ _ _ _ _ _ _
  · exact B12_19 _ _ _ _ _ _ _ _ _ _
  · exact B12_20 _ _ _ _ _ _ _ _ _ _
theorem r12 : g_law_3_3 [x0, .val (.list (Ld d)), x2, x3, .val (.int 12), x5, x6, x7, x8, x9, x10, x11] = .nx [x0, .val (.list (Ld d)), x2, x3, .val (.int 12), x5, x6, x7, x8, x9, .val (.int (d 12 % 12)), x11] := by kernel_rfl
theorem S12_0 : okP [0, 1, 2, 4] (g_law_3_4 [x0, x1, x2, x3, .val (.int 12), x5, x6, x7, .val (.tuple [.str "red", .str "red", .str "red", .str "red", .str "red", .str "red", .str "red", .str "red", .str "red", .str "red", .str "red", .str "red"]), .val (.tuple [.str "a", .str "b", .str "c", .str "d", .str "e", .str "f", .str "g", .str "h", .str "i", .str "j", .str "k", .str "l"]), .val (.int 0), x11]) = some [x0, x1, x2, .val (.int 12)] := by kernel_rfl
theorem S12_1 : okP [0, 1, 2, 4] (g_law_3_4 [x0, x1, x2, x3, .val (.int 12), x5, x6, x7, .val (.tuple [.str "red", .str "red", .str "red", .str "red", .str "red", .str "red", .str "red", .str "red", .str "red", .str "red", .str "red", .str "red"]), .val (.tuple [.str "a", .str "b", .str "c", .str "d", .str "e", .str "f", .str "g", .str "h", .str "i", .str "j", .str "k", .str "l"]), .val (.int 1), x11]) = some [x0, x1, x2, .val (.int 12)] := by kernel_rfl
theorem S12_2 : okP [0, 1, 2, 4] (g_law_3_4 [x0, x1, x2, x3, .val (.int 12), x5, x6, x7, .val (.tuple [.str "red", .str "red", .str "red", .str "red", .str "red", .str "red", .str "red", .str "red", .str "red", .str "red", .str "red", .str "red"]), .val (.tuple [.str "a", .str "b", .str "c", .str "d", .str "e", .str "f", .str "g", .str "h", .str "i", .str "j", .str "k", .str "l"]), .val (.int 2), x11]) = some [x0, x1, x2, .val (.int 12)] := by kernel_rfl
theorem S12_3 : okP [0, 1, 2, 4] (g_law_3_4 [x0, x1, x2, x3, .val (.int 12), x5, x6, x7, .val (.tuple [.str "red", .str "red", .str "red", .str "red", .str "red", .str "red", .str "red", .str "red", .str "red", .str "red", .str "red", .str "red"]), .val (.tuple [.str "a", .str "b", .str "c", .str "d", .str "e", .str "f", .str "g", .str "h", .str "i", .str "j", .str "k", .str "l"]), .val (.int 3), x11]) = some [x0, x1, x2, .val (.int 12)] := by kernel_rfl
theorem S12_4 : okP [0, 1, 2, 4] (g_law_3_4 [x0, x1, x2, x3, .val (.int 12), x5, x6, x7, .val (.tuple [.str "red", .str "red", .str "red", .str "red", .str "red", .str "red", .str "red", .str "red", .str "red", .str "red", .str "red", .str "red"]), .val (.tuple [.str "a", .str "b", .str "c", .str "d", .str "e", .str "f", .str "g", .str "h", .str "i", .str "j", .str "k", .str "l"]), .val (.int 4), x11]) = some [x0, x1, x2, .val (.int 12)] := by kernel_rfl
theorem S12_5 : okP [0, 1, 2, 4] (g_law_3_4 [x0, x1, x2, x3, .val (.int 12), x5, x6, x7, .val (.tuple [.str "red", .str "red", .str "red", .str "red", .str "red", .str "red", .str "red", .str "red", .str "red", .str "red", .str "red", .str "red"]), .val (.tuple [.str "a", .str "b", .str "c", .str "d", .str "e", .str "f", .str "g", .str "h", .str "i", .str "j", .str "k", .str "l"]), .val (.int 5), x11]) = some [x0, x1, x2, .val (.int 12)] := by kernel_rfl
theorem S12_6 : okP [0, 1, 2, 4] (g_law_3_4 [x0, x1, x2, x3, .val (.int 12), x5, x6, x7, .val (.tuple [.str "red", .str "red", .str "red", .str "red", .str "red", .str "red", .str "red", .str "red", .str "red", .str "red", .str "red", .str "red"]), .val (.tuple [.str "a", .str "b", .str "c", .str "d", .str "e", .str "f", .str "g", .str "h", .str "i", .str "j", .str "k", .str "l"]), .val (.int 6), x11]) = some [x0, x1, x2, .val (.int 12)] := by kernel_rfl
theorem S12_7 : okP [0, 1, 2, 4] (g_law_3_4 [x0, x1, x2, x3, .val (.int 12), x5, x6, x7, .val (.tuple [.str "red", .str "red", .str "red", .str "red", .str "red", .str "red", .str "red", .str "red", .str "red", .str "red", .str "red", .str "red"]), .val (.tuple [.str "a", .str "b", .str "c", .str "d", .str "e", .str "f", .str "g", .str "h", .str "i", .str "j", .str "k", .str "l"]), .val (.int 7), x11]) = some [x0, x1, x2, .val (.int 12)] := by kernel_rfl
theorem S12_8 : okP [0, 1, 2, 4] (g_law_3_4 [x0, x1, x2, x3, .val (.int 12), x5, x6, x7, .val (.tuple [.str "red", .str "red", .str "red", .str "red", .str "red", .str "red", .str "red", .str "red", .str "red", .str "red", .str "red", .str "red"]), .val (.tuple [.str "a", .str "b", .str "c", .str "d", .str "e", .str "f", .str "g", .str "h", .str "i", .str "j", .str "k", .str "l"]), .val (.int 8), x11]) = some [x0, x1, x2, .val (.int 12)] := by kernel_rfl
theorem S12_9 : okP [0, 1, 2, 4] (g_law_3_4 [x0, x1, x2, x3, .val (.int 12), x5, x6, x7, .val (.tuple [.str "red", .str "red", .str "red", .str "red", .str "red", .str "red", .str "red", .str "red", .str "red", .str "red", .str "red", .str "red"]), .val (.tuple [.str "a", .str "b", .str "c", .str "d", .str "e", .str "f", .str "g", .str "h", .str "i", .str "j", .str "k", .str "l"]), .val (.int 9), x11]) = some [x0, x1, x2, .val (.int 12)] := by kernel_rfl
theorem S12_10 : okP [0, 1, 2, 4] (g_law_3_4 [x0, x1, x2, x3, .val (.int 12), x5, x6, x7, .val (.tuple [.str "red", .str "red", .str "red", .str "red", .str "red", .str "red", .str "red", .str "red", .str "red", .str "red", .str "red", .str "red"]), .val (.tuple [.str "a", .str "b", .str "c", .str "d", .str "e", .str "f", .str "g", .str "h", .str "i", .str "j", .str "k", .str "l"]), .val (.int 10), x11]) = some [x0, x1, x2, .val (.int 12)] := by kernel_rfl
theorem S12_11 : okP [0, 1, 2, 4] (g_law_3_4 [x0, x1, x2, x3, .val (.int 12), x5, x6, x7, .val (.tuple [.str "red", .str "red", .str "red", .str "red", .str "red", .str "red", .str "red", .str "red", .str "red", .str "red", .str "red", .str "red"]), .val (.tuple [.str "a", .str "b", .str "c", .str "d", .str "e", .str "f", .str "g", .str "h", .str "i", .str "j", .str "k", .str "l"]), .val (.int 11), x11]) = some [x0, x1, x2, .val (.int 12)] := by kernel_rfl
theorem S12 (s : Int) (h : 0 ≤ s ∧ s < 12) : okP [0, 1, 2, 4] (g_law_3_4 [x0, x1, x2, x3, .val (.int 12), x5, x6, x7, .val (.tuple [.str "red", .str "red", .str "red", .str "red", .str "red", .str "red", .str "red", .str "red", .str "red", .str "red", .str "red", .str "red"]), .val (.tuple [.str "a", .str "b", .str "c", .str "d", .str "e", .str "f", .str "g", .str "h", .str "i", .str "j", .str "k", .str "l"]), .val (.int s), x11]) = some [x0, x1, x2, .val (.int 12)] := by
  have c : s = 0 ∨ s = 1 ∨ s = 2 ∨ s = 3 ∨ s = 4 ∨ s = 5 ∨ s = 6 ∨ s = 7 ∨ s = 8 ∨ s = 9 ∨ s = 10 ∨ s = 11 := by omega
  rcases c with rfl | rfl | rfl | rfl | rfl | rfl | rfl | rfl | rfl | rfl | rfl | rfl
  · exact S12_0 _ _ _ _ _ _ _ _
  · exact S12_1 _ _ _ _ _ _ _ _
  · exact S12_2 _ _ _ _ _ _ _ _
  · exact S12_3 _ _ _ _ _ _ _ _
  · exact S12_4 _ _ _ _ _ _ _ _
  · exact S12_5 _ _ _ _ _ _ _ _
  · exact S12_6 _ _ _ _ _ _ _ _
  · exact S12_7 _ _ _ _ _ _ _ _
  · exact S12_8 _ _ _ _ _ _ _ _
  · exact S12_9 _ _ _ _ _ _ _ _
  · exact S12_10 _ _ _ _ _ _ _ _
  · exact S12_11 _ _ _ _ _ _ _ _
theorem C12 : okP [0, 1, 2] (gC [x0, x1, x2, x3, .val (.int 12), x5, x6, x7, x8, x9, x10, x11]) = some [x0, x1, x2] := by kernel_rfl
theorem T12 (l : Int) (h : 1 ≤ l ∧ l ≤ 20) : ∃ ρ, gT [x0, .val (.list (Ld d)), .val (.int l), x3, .val (.int 12), x5, x6, x7, x8, x9, x10, x11] = .nx ρ ∧ ρ.length = 12 ∧ [0, 1, 2].map (fun j => ρ.getD j .no) = [x0, .val (.list (Ld d)), .val (.int l)] := by
  rw [gT_eq]
  obtain ⟨ρ1, h1, l1, t1⟩ := okP_of (B12 x0 (.val (.list (Ld d))) x3 x5 x6 x7 x8 x9 x10 x11 l h)
  obtain ⟨y0, y1, y2, y3, y4, y5, y6, y7, y8, y9, y10, y11, rfl⟩ := exp12 l1
  simp only [List.map_cons, List.map_nil, List.getD_cons_zero, List.getD_cons_succ, List.cons.injEq, and_true] at t1
  obtain ⟨rfl, rfl, rfl, rfl, rfl, rfl⟩ := t1
  rw [seq_nx h1, seq_nx (r12 y0 (.val (.int l)) _ _ _ _ _ _ _ _ d)]
  obtain ⟨ρ2, h2, l2, t2⟩ := okP_of (S12 y0 (.val (.list (Ld d))) (.val (.int l)) y3 y5 y6 y7 y11 (d 12 % 12) (by omega))
  obtain ⟨z0, z1, z2, z3, z4, z5, z6, z7, z8, z9, z10, z11, rfl⟩ := exp12 l2
  simp only [List.map_cons, List.map_nil, List.getD_cons_zero, List.getD_cons_succ, List.cons.injEq, and_true] at t2
  obtain ⟨rfl, rfl, rfl, rfl⟩ := t2
  rw [seq_nx h2]
  exact okP_of (C12 _ _ _ _ _ _ _ _ _ _ _)
theorem rest_ok : g_law_4 [x0, x1, x2, x3, x4, x5, x6, x7, x8, x9, x10, x11] = .rt (.bool true) := by kernel_rfl
abbrev gU : PL.Env → O := sSeq g_law_2_0 gA
theorem U1 (l : Int) (h : 1 ≤ l ∧ l ≤ 20) : ∃ ρ, gU [x0, .val (.list (Ld d)), .val (.int l), .val (.int 1), x4, x5, x6, x7, x8, x9, x10, x11] = .nx ρ ∧ ρ.length = 12 ∧ [0, 1, 2].map (fun j => ρ.getD j .no) = [x0, .val (.list (Ld d)), .val (.int l)] := by
  unfold gU
  rw [seq_nx (q1 x0 (.val (.int l)) x4 x5 x6 x7 x8 x9 x10 x11 d)]
  have c : 2 + 1 * (d 1 % 2) = 2 ∨ 2 + 1 * (d 1 % 2) = 3 := by omega
  rcases c with c | c
  · rw [c]; exact okP_of (A1_2 _ (.val (.list (Ld d))) _ _ _ _ _ _ _ l h)
  · rw [c]; exact okP_of (A1_3 _ (.val (.list (Ld d))) _ _ _ _ _ _ _ l h)
theorem U2 (l : Int) (h : 1 ≤ l ∧ l ≤ 20) : ∃ ρ, gU [x0, .val (.list (Ld d)), .val (.int l), .val (.int 2), x4, x5, x6, x7, x8, x9, x10, x11] = .nx ρ ∧ ρ.length = 12 ∧ [0, 1, 2].map (fun j => ρ.getD j .no) = [x0, .val (.list (Ld d)), .val (.int l)] := by
  unfold gU
  rw [seq_nx (q2 x0 (.val (.int l)) x4 x5 x6 x7 x8 x9 x10 x11 d)]
  have c : 2 + 1 * (d 2 % 2) = 2 ∨ 2 + 1 * (d 2 % 2) = 3 := by omega
  rcases c with c | c
  · rw [c]; exact okP_of (A2_2 _ (.val (.list (Ld d))) _ _ _ _ _ _ _ l h)
  · rw [c]; exact okP_of (A2_3 _ (.val (.list (Ld d))) _ _ _ _ _ _ _ l h)
theorem U3 (l : Int) (h : 1 ≤ l ∧ l ≤ 20) : ∃ ρ, gU [x0, .val (.list (Ld d)), .val (.int l), .val (.int 3), x4, x5, x6, x7, x8, x9, x10, x11] = .nx ρ ∧ ρ.length = 12 ∧ [0, 1, 2].map (fun j => ρ.getD j .no) = [x0, .val (.list (Ld d)), .val (.int l)] := by
  unfold gU
  rw [seq_nx (q3 x0 (.val (.int l)) x4 x5 x6 x7 x8 x9 x10 x11 d)]
  have c : 2 + 0 * (d 3 % 2) = 2 := by omega
  rcases c with c
  · rw [c]; exact okP_of (A3_2 _ (.val (.list (Ld d))) _ _ _ _ _ _ _ l h)
theorem U4 (l : Int) (h : 1 ≤ l ∧ l ≤ 20) : ∃ ρ, gU [x0, .val (.list (Ld d)), .val (.int l), .val (.int 4), x4, x5, x6, x7, x8, x9, x10, x11] = .nx ρ ∧ ρ.length = 12 ∧ [0, 1, 2].map (fun j => ρ.getD j .no) = [x0, .val (.list (Ld d)), .val (.int l)] := by
  unfold gU
  rw [seq_nx (q4 x0 (.val (.int l)) x4 x5 x6 x7 x8 x9 x10 x11 d)]
  have c : 2 + 0 * (d 4 % 2) = 2 := by omega
  rcases c with c
  · rw [c]; exact okP_of (A4_2 _ (.val (.list (Ld d))) _ _ _ _ _ _ _ l h)
end
theorem loop2 (x0 : Sl) (d : Int → Int) (l : Int) (h : 1 ≤ l ∧ l ≤ 20) (ρ : PL.Env) (hl : ρ.length = 12) (ht : [0, 1, 2].map (fun j => ρ.getD j .no) = [x0, .val (.list (Ld d)), .val (.int l)]) :
    ∃ ρ', g_law_2 ρ = .nx ρ' ∧ ρ'.length = 12 ∧ [0, 1, 2].map (fun j => ρ'.getD j .no) = [x0, .val (.list (Ld d)), .val (.int l)] := by
  obtain ⟨ρ', h4, h5, h6⟩ := forGo_ind (put := pOne 3) (body := gU) (fun _ ρ => ρ.length = 12 ∧ [0, 1, 2].map (fun j => ρ.getD j .no) = [x0, .val (.list (Ld d)), .val (.int l)]) (intsD 1 4) 0 ρ (fun i di ρ hd ⟨hl, ht⟩ => by
      have hi : i < 4 := by
        have := (List.getElem?_eq_some_iff.mp hd).1
        rwa [intsD_length] at this
      rw [intsD_get hi] at hd
      obtain rfl := Option.some.inj hd
      obtain ⟨v0, v1, v2, v3, v4, v5, v6, v7, v8, v9, v10, v11, rfl⟩ := exp12 hl
      simp only [List.map_cons, List.map_nil, List.getD_cons_zero, List.getD_cons_succ, List.cons.injEq, and_true] at ht
      obtain ⟨rfl, rfl, rfl⟩ := ht
      have c : i = 0 ∨ i = 1 ∨ i = 2 ∨ i = 3 := by omega
      rcases c with rfl | rfl | rfl | rfl
      · obtain ⟨ρ2, a1, a2, a3⟩ := U1 v0 v4 v5 v6 v7 v8 v9 v10 v11 d l h
        exact ⟨_, ρ2, rfl, .inl a1, a2, a3⟩
      · obtain ⟨ρ2, a1, a2, a3⟩ := U2 v0 v4 v5 v6 v7 v8 v9 v10 v11 d l h
        exact ⟨_, ρ2, rfl, .inl a1, a2, a3⟩
      · obtain ⟨ρ2, a1, a2, a3⟩ := U3 v0 v4 v5 v6 v7 v8 v9 v10 v11 d l h
        exact ⟨_, ρ2, rfl, .inl a1, a2, a3⟩
      · obtain ⟨ρ2, a1, a2, a3⟩ := U4 v0 v4 v5 v6 v7 v8 v9 v10 v11 d l h
        exact ⟨_, ρ2, rfl, .inl a1, a2, a3⟩
    ) ⟨hl, ht⟩
  exact ⟨ρ', for_nx (by kernel_rfl) h4, h5, h6⟩
theorem loop3 (x0 : Sl) (d : Int → Int) (l : Int) (h : 1 ≤ l ∧ l ≤ 20) (ρ : PL.Env) (hl : ρ.length = 12) (ht : [0, 1, 2].map (fun j => ρ.getD j .no) = [x0, .val (.list (Ld d)), .val (.int l)]) :
    ∃ ρ', g_law_3 ρ = .nx ρ' ∧ ρ'.length = 12 ∧ [0, 1, 2].map (fun j => ρ'.getD j .no) = [x0, .val (.list (Ld d)), .val (.int l)] := by
  obtain ⟨ρ', h4, h5, h6⟩ := forGo_ind (put := pOne 4) (body := gT) (fun _ ρ => ρ.length = 12 ∧ [0, 1, 2].map (fun j => ρ.getD j .no) = [x0, .val (.list (Ld d)), .val (.int l)]) (intsD 1 12) 0 ρ (fun i di ρ hd ⟨hl, ht⟩ => by
      have hi : i < 12 := by
        have := (List.getElem?_eq_some_iff.mp hd).1
        rwa [intsD_length] at this
      rw [intsD_get hi] at hd
      obtain rfl := Option.some.inj hd
      obtain ⟨v0, v1, v2, v3, v4, v5, v6, v7, v8, v9, v10, v11, rfl⟩ := exp12 hl
      simp only [List.map_cons, List.map_nil, List.getD_cons_zero, List.getD_cons_succ, List.cons.injEq, and_true] at ht
      obtain ⟨rfl, rfl, rfl⟩ := ht
      have c : i = 0 ∨ i = 1 ∨ i = 2 ∨ i = 3 ∨ i = 4 ∨ i = 5 ∨ i = 6 ∨ i = 7 ∨ i = 8 ∨ i = 9 ∨ i = 10 ∨ i = 11 := by omega
      rcases c with rfl | rfl | rfl | rfl | rfl | rfl | rfl | rfl | rfl | rfl | rfl | rfl
      · obtain ⟨ρ2, a1, a2, a3⟩ := T1 v0 v3 v5 v6 v7 v8 v9 v10 v11 d l h
        exact ⟨_, ρ2, rfl, .inl a1, a2, a3⟩
      · obtain ⟨ρ2, a1, a2, a3⟩ := T2 v0 v3 v5 v6 v7 v8 v9 v10 v11 d l h
        exact ⟨_, ρ2, rfl, .inl a1, a2, a3⟩
      · obtain ⟨ρ2, a1, a2, a3⟩ := T3 v0 v3 v5 v6 v7 v8 v9 v10 v11 d l h
        exact ⟨_, ρ2, rfl, .inl a1, a2, a3⟩
      · obtain ⟨ρ2, a1, a2, a3⟩ := T4 v0 v3 v5 v6 v7 v8 v9 v10 v11 d l h
        exact ⟨_, ρ2, rfl, .inl a1, a2, a3⟩
      · obtain ⟨ρ2, a1, a2, a3⟩ := T5 v0 v3 v5 v6 v7 v8 v9 v10 v11 d l h
        exact ⟨_, ρ2, rfl, .inl a1, a2, a3⟩
      · obtain ⟨ρ2, a1, a2, a3⟩ := T6 v0 v3 v5 v6 v7 v8 v9 v10 v11 d l h
        exact ⟨_, ρ2, rfl, .inl a1, a2, a3⟩
      · obtain ⟨ρ2, a1, a2, a3⟩ := T7 v0 v3 v5 v6 v7 v8 v9 v10 v11 d l h
        exact ⟨_, ρ2, rfl, .inl a1, a2, a3⟩
      · obtain ⟨ρ2, a1, a2, a3⟩ := T8 v0 v3 v5 v6 v7 v8 v9 v10 v11 d l h
        exact ⟨_, ρ2, rfl, .inl a1, a2, a3⟩
      · obtain ⟨ρ2, a1, a2, a3⟩ := T9 v0 v3 v5 v6 v7 v8 v9 v10 v11 d l h
        exact ⟨_, ρ2, rfl, .inl a1, a2, a3⟩
      · obtain ⟨ρ2, a1, a2, a3⟩ := T10 v0 v3 v5 v6 v7 v8 v9 v10 v11 d l h
        exact ⟨_, ρ2, rfl, .inl a1, a2, a3⟩
      · obtain ⟨ρ2, a1, a2, a3⟩ := T11 v0 v3 v5 v6 v7 v8 v9 v10 v11 d l h
        exact ⟨_, ρ2, rfl, .inl a1, a2, a3⟩
      · obtain ⟨ρ2, a1, a2, a3⟩ := T12 v0 v3 v5 v6 v7 v8 v9 v10 v11 d l h
        exact ⟨_, ρ2, rfl, .inl a1, a2, a3⟩
    ) ⟨hl, ht⟩
  exact ⟨ρ', for_nx (by kernel_rfl) h4, h5, h6⟩
theorem law_plain (ns : List Int) (hn : ns.length ≤ 63) : F_law ns [] = .ok (.bool true) := by
  obtain ⟨ds, h1, h2, h3⟩ := draws_ok ns hn 30 (by omega)
  rw [Ld_of ds h2] at h1
  generalize (fun j : Int => ds.getD j.toNat 0) = d at h1
  have hF : F__law_draws ns [.int 30] = .ok (.list (Ld d)) := h1
  have e : startR 12 ns [] = [.raw ns, .no, .no, .no, .no, .no, .no, .no, .no, .no, .no, .no] := rfl
  have e0 : g_law_0 (startR 12 ns []) = .nx [.raw ns, .val (.list (Ld d)), .no, .no, .no, .no, .no, .no, .no, .no, .no, .no] := by
    rw [e]
    simp -implicitDefEqProofs [g_law_0, hF]
  have e1 : g_law_1 [.raw ns, .val (.list (Ld d)), .no, .no, .no, .no, .no, .no, .no, .no, .no, .no] = .nx [.raw ns, .val (.list (Ld d)), .val (.int (1 + d 0 % 20)), .no, .no, .no, .no, .no, .no, .no, .no, .no] := by kernel_rfl
  have hl : 1 ≤ 1 + d 0 % 20 ∧ 1 + d 0 % 20 ≤ 20 := by omega
  obtain ⟨ρ2, e2, l2, t2⟩ := loop2 (.raw ns) d _ hl [.raw ns, .val (.list (Ld d)), .val (.int (1 + d 0 % 20)), .no, .no, .no, .no, .no, .no, .no, .no, .no] rfl rfl
  obtain ⟨ρ3, e3, l3, t3⟩ := loop3 (.raw ns) d _ hl ρ2 l2 t2
  obtain ⟨v0, v1, v2, v3, v4, v5, v6, v7, v8, v9, v10, v11, rfl⟩ := exp12 l3
  exact bodyR_rt ((seq_nx e0).trans ((seq_nx e1).trans ((seq_nx e2).trans ((seq_nx e3).trans (rest_ok _ _ _ _ _ _ _ _ _ _ _ _)))))
theorem all_mk {P : Program} {w : World} {K : PySem.W.Frag} {h : Heap} {mg : Str → Option Value} {fa f0 f1 f2 f3 f4 f5 f6 f7 f8 f9 f10 f11 f12 f13 f14 f15 f16 f17 f18 f19 f20 f21 f22 f23 f24 f25 f26 f27 f28 f29 f30 f31 f32 f33 f34 f35 f36 f37 f38 f39 f40 f41 f42 f43 f44 f45 f46 f47 f48 f49 f50 f51 f52 f53 f54 f55 f56 f57 f58 : Addr} {C0 C1 C2 C3 C4 C5 C6 C7 C8 C9 C10 C11 C12 : Addr} {t0 t1 t2 t3 t4 t5 t6 t7 t8 t9 t10 t11 : Tok} {od0 an0 od1 an1 od2 an2 od3 an3 od4 an4 od5 an5 od6 an6 od7 an7 od8 an8 od9 an9 od10 an10 od11 an11 od12 an12 od13 an13 od14 an14 od15 an15 od16 an16 od17 an17 od18 an18 od19 an19 od20 an20 od21 an21 od22 an22 od23 an23 od24 an24 od25 an25 od26 an26 od27 an27 od28 an28 od29 an29 od30 an30 od31 an31 od32 an32 od33 an33 od34 an34 od35 an35 od36 an36 od37 an37 od38 an38 od39 an39 od40 an40 od41 an41 od42 an42 od43 an43 od44 an44 od45 an45 od46 an46 od47 an47 od48 an48 od49 an49 od50 an50 od51 an51 od52 an52 od53 an53 od54 an54 od55 an55 od56 an56 od57 an57 od58 an58 : Option Addr} {sl0 sl1 sl2 sl3 sl4 sl5 sl6 sl7 sl8 sl9 sl10 sl11 sl12 sl13 sl14 sl15 sl16 sl17 sl18 sl19 sl20 sl21 sl22 sl23 sl24 sl25 sl26 sl27 sl28 sl29 sl30 sl31 sl32 sl33 sl34 sl35 sl36 sl37 sl38 sl39 sl40 sl41 sl42 sl43 sl44 sl45 sl46 sl47 sl48 sl49 sl50 sl51 sl52 sl53 sl54 sl55 sl56 sl57 sl58 : Array (Option Value)} {oc0 kV0 dc0 pm0 cd0 ct0 oc1 kV1 dc1 pm1 cd1 ct1 oc2 kV2 dc2 pm2 cd2 ct2 oc3 kV3 dc3 pm3 cd3 ct3 oc4 kV4 dc4 pm4 cd4 ct4 oc5 kV5 dc5 pm5 cd5 ct5 oc6 kV6 dc6 pm6 cd6 ct6 oc7 kV7 dc7 pm7 cd7 ct7 oc8 kV8 dc8 pm8 cd8 ct8 oc9 kV9 dc9 pm9 cd9 ct9 oc10 kV10 dc10 pm10 cd10 ct10 oc11 kV11 dc11 pm11 cd11 ct11 oc12 kV12 dc12 pm12 cd12 ct12 oc13 kV13 dc13 pm13 cd13 ct13 oc14 kV14 dc14 pm14 cd14 ct14 oc15 kV15 dc15 pm15 cd15 ct15 oc16 kV16 dc16 pm16 cd16 ct16 oc17 kV17 dc17 pm17 cd17 ct17 oc18 kV18 dc18 pm18 cd18 ct18 oc19 kV19 dc19 pm19 cd19 ct19 oc20 kV20 dc20 pm20 cd20 ct20 oc21 kV21 dc21 pm21 cd21 ct21 oc22 kV22 dc22 pm22 cd22 ct22 oc23 kV23 dc23 pm23 cd23 ct23 oc24 kV24 dc24 pm24 cd24 ct24 oc25 kV25 dc25 pm25 cd25 ct25 oc26 kV26 dc26 pm26 cd26 ct26 oc27 kV27 dc27 pm27 cd27 ct27 oc28 kV28 dc28 pm28 cd28 ct28 oc29 kV29 dc29 pm29 cd29 ct29 oc30 kV30 dc30 pm30 cd30 ct30 oc31 kV31 dc31 pm31 cd31 ct31 oc32 kV32 dc32 pm32 cd32 ct32 oc33 kV33 dc33 pm33 cd33 ct33 oc34 kV34 dc34 pm34 cd34 ct34 oc35 kV35 dc35 pm35 cd35 ct35 oc36 kV36 dc36 pm36 cd36 ct36 oc37 kV37 dc37 pm37 cd37 ct37 oc38 kV38 dc38 pm38 cd38 ct38 oc39 kV39 dc39 pm39 cd39 ct39 oc40 kV40 dc40 pm40 cd40 ct40 oc41 kV41 dc41 pm41 cd41 ct41 oc42 kV42 dc42 pm42 cd42 ct42 oc43 kV43 dc43 pm43 cd43 ct43 oc44 kV44 dc44 pm44 cd44 ct44 oc45 kV45 dc45 pm45 cd45 ct45 oc46 kV46 dc46 pm46 cd46 ct46 oc47 kV47 dc47 pm47 cd47 ct47 oc48 kV48 dc48 pm48 cd48 ct48 oc49 kV49 dc49 pm49 cd49 ct49 oc50 kV50 dc50 pm50 cd50 ct50 oc51 kV51 dc51 pm51 cd51 ct51 oc52 kV52 dc52 pm52 cd52 ct52 oc53 kV53 dc53 pm53 cd53 ct53 oc54 kV54 dc54 pm54 cd54 ct54 oc55 kV55 dc55 pm55 cd55 ct55 oc56 kV56 dc56 pm56 cd56 ct56 oc57 kV57 dc57 pm57 cd57 ct57 oc58 kV58 dc58 pm58 cd58 ct58 : Value} {q0 : Addr} {u0_0 u0_1 : Tok} {nq0 : Nat} {sq0 : Array (Option Value)} {q1 : Addr} {u1_0 u1_1 : Tok} {nq1 : Nat} {sq1 : Array (Option Value)} {q2 : Addr} {u2_0 u2_1 : Tok} {nq2 : Nat} {sq2 : Array (Option Value)} (X : K.In h) (G : h.Ns mainGlobals mg) (hfa : mg "law" = some (.ref fa))
    (a0 : PySem.W.nsIn K mainGlobals "_law_draws" = some (some (.ref f0)))
    (l0 : K.lookup f0 = some ⟨oc0, od0, .func (PySem.W.fnOf "_law_draws" "_law_draws" (defArgs st__law_draws) (defBody st__law_draws) (defScope st__law_draws) .none kV0 dc0 pm0 an0 cd0 ct0), sl0⟩)
    (c0 : PySem.W.codeIn K cd0 "_law_draws" = true)
    (k0 : PySem.W.keepIn K (.ref f0) = true)
    (a1 : PySem.W.nsIn K mainGlobals "_law_power" = some (some (.ref f1)))
    (l1 : K.lookup f1 = some ⟨oc1, od1, .func (PySem.W.fnOf "_law_power" "_law_power" (defArgs st__law_power) (defBody st__law_power) (defScope st__law_power) .none kV1 dc1 pm1 an1 cd1 ct1), sl1⟩)
    (c1 : PySem.W.codeIn K cd1 "_law_power" = true)
    (k1 : PySem.W.keepIn K (.ref f1) = true)
    (a2 : PySem.W.nsIn K mainGlobals "is_whole" = some (some (.ref f2)))
    (l2 : K.lookup f2 = some ⟨oc2, od2, .func (PySem.W.fnOf "is_whole" "is_whole" (defArgs st_is_whole) (defBody st_is_whole) (defScope st_is_whole) .none kV2 dc2 pm2 an2 cd2 ct2), sl2⟩)
    (c2 : PySem.W.codeIn K cd2 "is_whole" = true)
    (k2 : PySem.W.keepIn K (.ref f2) = true)
    (a3 : PySem.W.nsIn K mainGlobals "_check_counts" = some (some (.ref f3)))
    (l3 : K.lookup f3 = some ⟨oc3, od3, .func (PySem.W.fnOf "_check_counts" "_check_counts" (defArgs st__check_counts) (defBody st__check_counts) (defScope st__check_counts) .none kV3 dc3 pm3 an3 cd3 ct3), sl3⟩)
    (c3 : PySem.W.codeIn K cd3 "_check_counts" = true)
    (k3 : PySem.W.keepIn K (.ref f3) = true)
    (a4 : PySem.W.nsIn K mainGlobals "_rows" = some (some (.ref f4)))
    (l4 : K.lookup f4 = some ⟨oc4, od4, .func (PySem.W.fnOf "_rows" "_rows" (defArgs st__rows) (defBody st__rows) (defScope st__rows) .none kV4 dc4 pm4 an4 cd4 ct4), sl4⟩)
    (c4 : PySem.W.codeIn K cd4 "_rows" = true)
    (k4 : PySem.W.keepIn K (.ref f4) = true)
    (a5 : PySem.W.nsIn K mainGlobals "ropes_with" = some (some (.ref f5)))
    (l5 : K.lookup f5 = some ⟨oc5, od5, .func (PySem.W.fnOf "ropes_with" "ropes_with" (defArgs st_ropes_with) (defBody st_ropes_with) (defScope st_ropes_with) .none kV5 dc5 pm5 an5 cd5 ct5), sl5⟩)
    (c5 : PySem.W.codeIn K cd5 "ropes_with" = true)
    (k5 : PySem.W.keepIn K (.ref f5) = true)
    (a6 : PySem.W.nsIn K mainGlobals "_power" = some (some (.ref f6)))
    (l6 : K.lookup f6 = some ⟨oc6, od6, .func (PySem.W.fnOf "_power" "_power" (defArgs st__power) (defBody st__power) (defScope st__power) .none kV6 dc6 pm6 an6 cd6 ct6), sl6⟩)
    (c6 : PySem.W.codeIn K cd6 "_power" = true)
    (k6 : PySem.W.keepIn K (.ref f6) = true)
    (a7 : PySem.W.nsIn K mainGlobals "divisor" = some (some (.ref f7)))
    (l7 : K.lookup f7 = some ⟨oc7, od7, .func (PySem.W.fnOf "divisor" "divisor" (defArgs st_divisor) (defBody st_divisor) (defScope st_divisor) .none kV7 dc7 pm7 an7 cd7 ct7), sl7⟩)
    (c7 : PySem.W.codeIn K cd7 "divisor" = true)
    (k7 : PySem.W.keepIn K (.ref f7) = true)
    (a8 : PySem.W.nsIn K mainGlobals "count_ropes" = some (some (.ref f8)))
    (l8 : K.lookup f8 = some ⟨oc8, od8, .func (PySem.W.fnOf "count_ropes" "count_ropes" (defArgs st_count_ropes) (defBody st_count_ropes) (defScope st_count_ropes) .none kV8 dc8 pm8 an8 cd8 ct8), sl8⟩)
    (c8 : PySem.W.codeIn K cd8 "count_ropes" = true)
    (k8 : PySem.W.keepIn K (.ref f8) = true)
    (a9 : PySem.W.nsIn K mainGlobals "is_colour" = some (some (.ref f9)))
    (l9 : K.lookup f9 = some ⟨oc9, od9, .func (PySem.W.fnOf "is_colour" "is_colour" (defArgs st_is_colour) (defBody st_is_colour) (defScope st_is_colour) .none kV9 dc9 pm9 an9 cd9 ct9), sl9⟩)
    (c9 : PySem.W.codeIn K cd9 "is_colour" = true)
    (k9 : PySem.W.keepIn K (.ref f9) = true)
    (a10 : PySem.W.nsIn K mainGlobals "is_turn" = some (some (.ref f10)))
    (l10 : K.lookup f10 = some ⟨oc10, od10, .func (PySem.W.fnOf "is_turn" "is_turn" (defArgs st_is_turn) (defBody st_is_turn) (defScope st_is_turn) .none kV10 dc10 pm10 an10 cd10 ct10), sl10⟩)
    (c10 : PySem.W.codeIn K cd10 "is_turn" = true)
    (k10 : PySem.W.keepIn K (.ref f10) = true)
    (a11 : PySem.W.nsIn K mainGlobals "is_integer" = some (some (.ref f11)))
    (l11 : K.lookup f11 = some ⟨oc11, od11, .func (PySem.W.fnOf "is_integer" "is_integer" (defArgs st_is_integer) (defBody st_is_integer) (defScope st_is_integer) .none kV11 dc11 pm11 an11 cd11 ct11), sl11⟩)
    (c11 : PySem.W.codeIn K cd11 "is_integer" = true)
    (k11 : PySem.W.keepIn K (.ref f11) = true)
    (a12 : PySem.W.nsIn K mainGlobals "is_quotient" = some (some (.ref f12)))
    (l12 : K.lookup f12 = some ⟨oc12, od12, .func (PySem.W.fnOf "is_quotient" "is_quotient" (defArgs st_is_quotient) (defBody st_is_quotient) (defScope st_is_quotient) .none kV12 dc12 pm12 an12 cd12 ct12), sl12⟩)
    (c12 : PySem.W.codeIn K cd12 "is_quotient" = true)
    (k12 : PySem.W.keepIn K (.ref f12) = true)
    (a13 : PySem.W.nsIn K mainGlobals "is_less" = some (some (.ref f13)))
    (l13 : K.lookup f13 = some ⟨oc13, od13, .func (PySem.W.fnOf "is_less" "is_less" (defArgs st_is_less) (defBody st_is_less) (defScope st_is_less) .none kV13 dc13 pm13 an13 cd13 ct13), sl13⟩)
    (c13 : PySem.W.codeIn K cd13 "is_less" = true)
    (k13 : PySem.W.keepIn K (.ref f13) = true)
    (a14 : PySem.W.nsIn K mainGlobals "is_lay" = some (some (.ref f14)))
    (l14 : K.lookup f14 = some ⟨oc14, od14, .func (PySem.W.fnOf "is_lay" "is_lay" (defArgs st_is_lay) (defBody st_is_lay) (defScope st_is_lay) .none kV14 dc14 pm14 an14 cd14 ct14), sl14⟩)
    (c14 : PySem.W.codeIn K cd14 "is_lay" = true)
    (k14 : PySem.W.keepIn K (.ref f14) = true)
    (a15 : PySem.W.nsIn K mainGlobals "_is_within" = some (some (.ref f15)))
    (l15 : K.lookup f15 = some ⟨oc15, od15, .func (PySem.W.fnOf "_is_within" "_is_within" (defArgs st__is_within) (defBody st__is_within) (defScope st__is_within) .none kV15 dc15 pm15 an15 cd15 ct15), sl15⟩)
    (c15 : PySem.W.codeIn K cd15 "_is_within" = true)
    (k15 : PySem.W.keepIn K (.ref f15) = true)
    (a16 : PySem.W.nsIn K mainGlobals "_are_parts" = some (some (.ref f16)))
    (l16 : K.lookup f16 = some ⟨oc16, od16, .func (PySem.W.fnOf "_are_parts" "_are_parts" (defArgs st__are_parts) (defBody st__are_parts) (defScope st__are_parts) .none kV16 dc16 pm16 an16 cd16 ct16), sl16⟩)
    (c16 : PySem.W.codeIn K cd16 "_are_parts" = true)
    (k16 : PySem.W.keepIn K (.ref f16) = true)
    (a17 : PySem.W.nsIn K mainGlobals "_things" = some (some (.ref f17)))
    (l17 : K.lookup f17 = some ⟨oc17, od17, .func (PySem.W.fnOf "_things" "_things" (defArgs st__things) (defBody st__things) (defScope st__things) .none kV17 dc17 pm17 an17 cd17 ct17), sl17⟩)
    (c17 : PySem.W.codeIn K cd17 "_things" = true)
    (k17 : PySem.W.keepIn K (.ref f17) = true)
    (a18 : PySem.W.nsIn K mainGlobals "is_rope" = some (some (.ref f18)))
    (l18 : K.lookup f18 = some ⟨oc18, od18, .func (PySem.W.fnOf "is_rope" "is_rope" (defArgs st_is_rope) (defBody st_is_rope) (defScope st_is_rope) .none kV18 dc18 pm18 an18 cd18 ct18), sl18⟩)
    (c18 : PySem.W.codeIn K cd18 "is_rope" = true)
    (k18 : PySem.W.keepIn K (.ref f18) = true)
    (a19 : PySem.W.nsIn K mainGlobals "_check" = some (some (.ref f19)))
    (l19 : K.lookup f19 = some ⟨oc19, od19, .func (PySem.W.fnOf "_check" "_check" (defArgs st__check) (defBody st__check) (defScope st__check) .none kV19 dc19 pm19 an19 cd19 ct19), sl19⟩)
    (c19 : PySem.W.codeIn K cd19 "_check" = true)
    (k19 : PySem.W.keepIn K (.ref f19) = true)
    (a20 : PySem.W.nsIn K mainGlobals "_yarns" = some (some (.ref f20)))
    (l20 : K.lookup f20 = some ⟨oc20, od20, .func (PySem.W.fnOf "_yarns" "_yarns" (defArgs st__yarns) (defBody st__yarns) (defScope st__yarns) .none kV20 dc20 pm20 an20 cd20 ct20), sl20⟩)
    (c20 : PySem.W.codeIn K cd20 "_yarns" = true)
    (k20 : PySem.W.keepIn K (.ref f20) = true)
    (a21 : PySem.W.nsIn K mainGlobals "yarns_of" = some (some (.ref f21)))
    (l21 : K.lookup f21 = some ⟨oc21, od21, .func (PySem.W.fnOf "yarns_of" "yarns_of" (defArgs st_yarns_of) (defBody st_yarns_of) (defScope st_yarns_of) .none kV21 dc21 pm21 an21 cd21 ct21), sl21⟩)
    (c21 : PySem.W.codeIn K cd21 "yarns_of" = true)
    (k21 : PySem.W.keepIn K (.ref f21) = true)
    (a22 : PySem.W.nsIn K mainGlobals "is_hard" = some (some (.ref f22)))
    (l22 : K.lookup f22 = some ⟨oc22, od22, .func (PySem.W.fnOf "is_hard" "is_hard" (defArgs st_is_hard) (defBody st_is_hard) (defScope st_is_hard) .none kV22 dc22 pm22 an22 cd22 ct22), sl22⟩)
    (c22 : PySem.W.codeIn K cd22 "is_hard" = true)
    (k22 : PySem.W.keepIn K (.ref f22) = true)
    (a23 : PySem.W.nsIn K mainGlobals "check_length" = some (some (.ref f23)))
    (l23 : K.lookup f23 = some ⟨oc23, od23, .func (PySem.W.fnOf "check_length" "check_length" (defArgs st_check_length) (defBody st_check_length) (defScope st_check_length) .none kV23 dc23 pm23 an23 cd23 ct23), sl23⟩)
    (c23 : PySem.W.codeIn K cd23 "check_length" = true)
    (k23 : PySem.W.keepIn K (.ref f23) = true)
    (a24 : PySem.W.nsIn K mainGlobals "quotient" = some (some (.ref f24)))
    (l24 : K.lookup f24 = some ⟨oc24, od24, .func (PySem.W.fnOf "quotient" "quotient" (defArgs st_quotient) (defBody st_quotient) (defScope st_quotient) .none kV24 dc24 pm24 an24 cd24 ct24), sl24⟩)
    (c24 : PySem.W.codeIn K cd24 "quotient" = true)
    (k24 : PySem.W.keepIn K (.ref f24) = true)
    (a25 : PySem.W.nsIn K mainGlobals "times" = some (some (.ref f25)))
    (l25 : K.lookup f25 = some ⟨oc25, od25, .func (PySem.W.fnOf "times" "times" (defArgs st_times) (defBody st_times) (defScope st_times) .none kV25 dc25 pm25 an25 cd25 ct25), sl25⟩)
    (c25 : PySem.W.codeIn K cd25 "times" = true)
    (k25 : PySem.W.keepIn K (.ref f25) = true)
    (a26 : PySem.W.nsIn K mainGlobals "over" = some (some (.ref f26)))
    (l26 : K.lookup f26 = some ⟨oc26, od26, .func (PySem.W.fnOf "over" "over" (defArgs st_over) (defBody st_over) (defScope st_over) .none kV26 dc26 pm26 an26 cd26 ct26), sl26⟩)
    (c26 : PySem.W.codeIn K cd26 "over" = true)
    (k26 : PySem.W.keepIn K (.ref f26) = true)
    (a27 : PySem.W.nsIn K mainGlobals "plus" = some (some (.ref f27)))
    (l27 : K.lookup f27 = some ⟨oc27, od27, .func (PySem.W.fnOf "plus" "plus" (defArgs st_plus) (defBody st_plus) (defScope st_plus) .none kV27 dc27 pm27 an27 cd27 ct27), sl27⟩)
    (c27 : PySem.W.codeIn K cd27 "plus" = true)
    (k27 : PySem.W.keepIn K (.ref f27) = true)
    (a28 : PySem.W.nsIn K mainGlobals "_turns" = some (some (.ref f28)))
    (l28 : K.lookup f28 = some ⟨oc28, od28, .func (PySem.W.fnOf "_turns" "_turns" (defArgs st__turns) (defBody st__turns) (defScope st__turns) .none kV28 dc28 pm28 an28 cd28 ct28), sl28⟩)
    (c28 : PySem.W.codeIn K cd28 "_turns" = true)
    (k28 : PySem.W.keepIn K (.ref f28) = true)
    (a29 : PySem.W.nsIn K mainGlobals "turns_in" = some (some (.ref f29)))
    (l29 : K.lookup f29 = some ⟨oc29, od29, .func (PySem.W.fnOf "turns_in" "turns_in" (defArgs st_turns_in) (defBody st_turns_in) (defScope st_turns_in) .none kV29 dc29 pm29 an29 cd29 ct29), sl29⟩)
    (c29 : PySem.W.codeIn K cd29 "turns_in" = true)
    (k29 : PySem.W.keepIn K (.ref f29) = true)
    (a30 : PySem.W.nsIn K mainGlobals "is_quiet" = some (some (.ref f30)))
    (l30 : K.lookup f30 = some ⟨oc30, od30, .func (PySem.W.fnOf "is_quiet" "is_quiet" (defArgs st_is_quiet) (defBody st_is_quiet) (defScope st_is_quiet) .none kV30 dc30 pm30 an30 cd30 ct30), sl30⟩)
    (c30 : PySem.W.codeIn K cd30 "is_quiet" = true)
    (k30 : PySem.W.keepIn K (.ref f30) = true)
    (a31 : PySem.W.nsIn K mainGlobals "_law_low" = some (some (.ref f31)))
    (l31 : K.lookup f31 = some ⟨oc31, od31, .func (PySem.W.fnOf "_law_low" "_law_low" (defArgs st__law_low) (defBody st__law_low) (defScope st__law_low) .none kV31 dc31 pm31 an31 cd31 ct31), sl31⟩)
    (c31 : PySem.W.codeIn K cd31 "_law_low" = true)
    (k31 : PySem.W.keepIn K (.ref f31) = true)
    (a32 : PySem.W.nsIn K mainGlobals "_check_take" = some (some (.ref f32)))
    (l32 : K.lookup f32 = some ⟨oc32, od32, .func (PySem.W.fnOf "_check_take" "_check_take" (defArgs st__check_take) (defBody st__check_take) (defScope st__check_take) .none kV32 dc32 pm32 an32 cd32 ct32), sl32⟩)
    (c32 : PySem.W.codeIn K cd32 "_check_take" = true)
    (k32 : PySem.W.keepIn K (.ref f32) = true)
    (a33 : PySem.W.nsIn K mainGlobals "_lengths" = some (some (.ref f33)))
    (l33 : K.lookup f33 = some ⟨oc33, od33, .func (PySem.W.fnOf "_lengths" "_lengths" (defArgs st__lengths) (defBody st__lengths) (defScope st__lengths) .none kV33 dc33 pm33 an33 cd33 ct33), sl33⟩)
    (c33 : PySem.W.codeIn K cd33 "_lengths" = true)
    (k33 : PySem.W.keepIn K (.ref f33) = true)
    (a34 : PySem.W.nsIn K mainGlobals "_needed" = some (some (.ref f34)))
    (l34 : K.lookup f34 = some ⟨oc34, od34, .func (PySem.W.fnOf "_needed" "_needed" (defArgs st__needed) (defBody st__needed) (defScope st__needed) .none kV34 dc34 pm34 an34 cd34 ct34), sl34⟩)
    (c34 : PySem.W.codeIn K cd34 "_needed" = true)
    (k34 : PySem.W.keepIn K (.ref f34) = true)
    (a35 : PySem.W.nsIn K mainGlobals "needed" = some (some (.ref f35)))
    (l35 : K.lookup f35 = some ⟨oc35, od35, .func (PySem.W.fnOf "needed" "needed" (defArgs st_needed) (defBody st_needed) (defScope st_needed) .none kV35 dc35 pm35 an35 cd35 ct35), sl35⟩)
    (c35 : PySem.W.codeIn K cd35 "needed" = true)
    (k35 : PySem.W.keepIn K (.ref f35) = true)
    (a36 : PySem.W.nsIn K mainGlobals "ascends" = some (some (.ref f36)))
    (l36 : K.lookup f36 = some ⟨oc36, od36, .func (PySem.W.fnOf "ascends" "ascends" (defArgs st_ascends) (defBody st_ascends) (defScope st_ascends) .none kV36 dc36 pm36 an36 cd36 ct36), sl36⟩)
    (c36 : PySem.W.codeIn K cd36 "ascends" = true)
    (k36 : PySem.W.keepIn K (.ref f36) = true)
    (a37 : PySem.W.nsIn K mainGlobals "_is_kept" = some (some (.ref f37)))
    (l37 : K.lookup f37 = some ⟨oc37, od37, .func (PySem.W.fnOf "_is_kept" "_is_kept" (defArgs st__is_kept) (defBody st__is_kept) (defScope st__is_kept) .none kV37 dc37 pm37 an37 cd37 ct37), sl37⟩)
    (c37 : PySem.W.codeIn K cd37 "_is_kept" = true)
    (k37 : PySem.W.keepIn K (.ref f37) = true)
    (a38 : PySem.W.nsIn K mainGlobals "longest" = some (some (.ref f38)))
    (l38 : K.lookup f38 = some ⟨oc38, od38, .func (PySem.W.fnOf "longest" "longest" (defArgs st_longest) (defBody st_longest) (defScope st_longest) .none kV38 dc38 pm38 an38 cd38 ct38), sl38⟩)
    (c38 : PySem.W.codeIn K cd38 "longest" = true)
    (k38 : PySem.W.keepIn K (.ref f38) = true)
    (a39 : PySem.W.nsIn K mainGlobals "check_colours" = some (some (.ref f39)))
    (l39 : K.lookup f39 = some ⟨oc39, od39, .func (PySem.W.fnOf "check_colours" "check_colours" (defArgs st_check_colours) (defBody st_check_colours) (defScope st_check_colours) .none kV39 dc39 pm39 an39 cd39 ct39), sl39⟩)
    (c39 : PySem.W.codeIn K cd39 "check_colours" = true)
    (k39 : PySem.W.keepIn K (.ref f39) = true)
    (a40 : PySem.W.nsIn K mainGlobals "_turned" = some (some (.ref f40)))
    (l40 : K.lookup f40 = some ⟨oc40, od40, .func (PySem.W.fnOf "_turned" "_turned" (defArgs st__turned) (defBody st__turned) (defScope st__turned) .none kV40 dc40 pm40 an40 cd40 ct40), sl40⟩)
    (c40 : PySem.W.codeIn K cd40 "_turned" = true)
    (k40 : PySem.W.keepIn K (.ref f40) = true)
    (a41 : PySem.W.nsIn K mainGlobals "_least_steps" = some (some (.ref f41)))
    (l41 : K.lookup f41 = some ⟨oc41, od41, .func (PySem.W.fnOf "_least_steps" "_least_steps" (defArgs st__least_steps) (defBody st__least_steps) (defScope st__least_steps) .none kV41 dc41 pm41 an41 cd41 ct41), sl41⟩)
    (c41 : PySem.W.codeIn K cd41 "_least_steps" = true)
    (k41 : PySem.W.keepIn K (.ref f41) = true)
    (a42 : PySem.W.nsIn K mainGlobals "least_steps" = some (some (.ref f42)))
    (l42 : K.lookup f42 = some ⟨oc42, od42, .func (PySem.W.fnOf "least_steps" "least_steps" (defArgs st_least_steps) (defBody st_least_steps) (defScope st_least_steps) .none kV42 dc42 pm42 an42 cd42 ct42), sl42⟩)
    (c42 : PySem.W.codeIn K cd42 "least_steps" = true)
    (k42 : PySem.W.keepIn K (.ref f42) = true)
    (a43 : PySem.W.nsIn K mainGlobals "_check_lay" = some (some (.ref f43)))
    (l43 : K.lookup f43 = some ⟨oc43, od43, .func (PySem.W.fnOf "_check_lay" "_check_lay" (defArgs st__check_lay) (defBody st__check_lay) (defScope st__check_lay) .none kV43 dc43 pm43 an43 cd43 ct43), sl43⟩)
    (c43 : PySem.W.codeIn K cd43 "_check_lay" = true)
    (k43 : PySem.W.keepIn K (.ref f43) = true)
    (a44 : PySem.W.nsIn K mainGlobals "_again" = some (some (.ref f44)))
    (l44 : K.lookup f44 = some ⟨oc44, od44, .func (PySem.W.fnOf "_again" "_again" (defArgs st__again) (defBody st__again) (defScope st__again) .none kV44 dc44 pm44 an44 cd44 ct44), sl44⟩)
    (c44 : PySem.W.codeIn K cd44 "_again" = true)
    (k44 : PySem.W.keepIn K (.ref f44) = true)
    (a45 : PySem.W.nsIn K mainGlobals "comes_again" = some (some (.ref f45)))
    (l45 : K.lookup f45 = some ⟨oc45, od45, .func (PySem.W.fnOf "comes_again" "comes_again" (defArgs st_comes_again) (defBody st_comes_again) (defScope st_comes_again) .none kV45 dc45 pm45 an45 cd45 ct45), sl45⟩)
    (c45 : PySem.W.codeIn K cd45 "comes_again" = true)
    (k45 : PySem.W.keepIn K (.ref f45) = true)
    (a46 : PySem.W.nsIn K mainGlobals "both_again" = some (some (.ref f46)))
    (l46 : K.lookup f46 = some ⟨oc46, od46, .func (PySem.W.fnOf "both_again" "both_again" (defArgs st_both_again) (defBody st_both_again) (defScope st_both_again) .none kV46 dc46 pm46 an46 cd46 ct46), sl46⟩)
    (c46 : PySem.W.codeIn K cd46 "both_again" = true)
    (k46 : PySem.W.keepIn K (.ref f46) = true)
    (a47 : PySem.W.nsIn K mainGlobals "_least_turned" = some (some (.ref f47)))
    (l47 : K.lookup f47 = some ⟨oc47, od47, .func (PySem.W.fnOf "_least_turned" "_least_turned" (defArgs st__least_turned) (defBody st__least_turned) (defScope st__least_turned) .none kV47 dc47 pm47 an47 cd47 ct47), sl47⟩)
    (c47 : PySem.W.codeIn K cd47 "_least_turned" = true)
    (k47 : PySem.W.keepIn K (.ref f47) = true)
    (a48 : PySem.W.nsIn K mainGlobals "_mirrored" = some (some (.ref f48)))
    (l48 : K.lookup f48 = some ⟨oc48, od48, .func (PySem.W.fnOf "_mirrored" "_mirrored" (defArgs st__mirrored) (defBody st__mirrored) (defScope st__mirrored) .none kV48 dc48 pm48 an48 cd48 ct48), sl48⟩)
    (c48 : PySem.W.codeIn K cd48 "_mirrored" = true)
    (k48 : PySem.W.keepIn K (.ref f48) = true)
    (a49 : PySem.W.nsIn K mainGlobals "is_even_handed" = some (some (.ref f49)))
    (l49 : K.lookup f49 = some ⟨oc49, od49, .func (PySem.W.fnOf "is_even_handed" "is_even_handed" (defArgs st_is_even_handed) (defBody st_is_even_handed) (defScope st_is_even_handed) .none kV49 dc49 pm49 an49 cd49 ct49), sl49⟩)
    (c49 : PySem.W.codeIn K cd49 "is_even_handed" = true)
    (k49 : PySem.W.keepIn K (.ref f49) = true)
    (a50 : PySem.W.nsIn K mainGlobals "least_turned" = some (some (.ref f50)))
    (l50 : K.lookup f50 = some ⟨oc50, od50, .func (PySem.W.fnOf "least_turned" "least_turned" (defArgs st_least_turned) (defBody st_least_turned) (defScope st_least_turned) .none kV50 dc50 pm50 an50 cd50 ct50), sl50⟩)
    (c50 : PySem.W.codeIn K cd50 "least_turned" = true)
    (k50 : PySem.W.keepIn K (.ref f50) = true)
    (a51 : PySem.W.nsIn K mainGlobals "same_rope" = some (some (.ref f51)))
    (l51 : K.lookup f51 = some ⟨oc51, od51, .func (PySem.W.fnOf "same_rope" "same_rope" (defArgs st_same_rope) (defBody st_same_rope) (defScope st_same_rope) .none kV51 dc51 pm51 an51 cd51 ct51), sl51⟩)
    (c51 : PySem.W.codeIn K cd51 "same_rope" = true)
    (k51 : PySem.W.keepIn K (.ref f51) = true)
    (a52 : PySem.W.nsIn K mainGlobals "_orders" = some (some (.ref f52)))
    (l52 : K.lookup f52 = some ⟨oc52, od52, .func (PySem.W.fnOf "_orders" "_orders" (defArgs st__orders) (defBody st__orders) (defScope st__orders) .none kV52 dc52 pm52 an52 cd52 ct52), sl52⟩)
    (c52 : PySem.W.codeIn K cd52 "_orders" = true)
    (k52 : PySem.W.keepIn K (.ref f52) = true)
    (a53 : PySem.W.nsIn K mainGlobals "count_with" = some (some (.ref f53)))
    (l53 : K.lookup f53 = some ⟨oc53, od53, .func (PySem.W.fnOf "count_with" "count_with" (defArgs st_count_with) (defBody st_count_with) (defScope st_count_with) .none kV53 dc53 pm53 an53 cd53 ct53), sl53⟩)
    (c53 : PySem.W.codeIn K cd53 "count_with" = true)
    (k53 : PySem.W.keepIn K (.ref f53) = true)
    (a54 : PySem.W.nsIn K mainGlobals "_turned_over" = some (some (.ref f54)))
    (l54 : K.lookup f54 = some ⟨oc54, od54, .func (PySem.W.fnOf "_turned_over" "_turned_over" (defArgs st__turned_over) (defBody st__turned_over) (defScope st__turned_over) .none kV54 dc54 pm54 an54 cd54 ct54), sl54⟩)
    (c54 : PySem.W.codeIn K cd54 "_turned_over" = true)
    (k54 : PySem.W.keepIn K (.ref f54) = true)
    (a55 : PySem.W.nsIn K mainGlobals "turned_over" = some (some (.ref f55)))
    (l55 : K.lookup f55 = some ⟨oc55, od55, .func (PySem.W.fnOf "turned_over" "turned_over" (defArgs st_turned_over) (defBody st_turned_over) (defScope st_turned_over) .none kV55 dc55 pm55 an55 cd55 ct55), sl55⟩)
    (c55 : PySem.W.codeIn K cd55 "turned_over" = true)
    (k55 : PySem.W.keepIn K (.ref f55) = true)
    (a56 : PySem.W.nsIn K mainGlobals "quiet_lay" = some (some (.ref f56)))
    (l56 : K.lookup f56 = some ⟨oc56, od56, .func (PySem.W.fnOf "quiet_lay" "quiet_lay" (defArgs st_quiet_lay) (defBody st_quiet_lay) (defScope st_quiet_lay) .none kV56 dc56 pm56 an56 cd56 ct56), sl56⟩)
    (c56 : PySem.W.codeIn K cd56 "quiet_lay" = true)
    (k56 : PySem.W.keepIn K (.ref f56) = true)
    (a57 : PySem.W.nsIn K mainGlobals "turned" = some (some (.ref f57)))
    (l57 : K.lookup f57 = some ⟨oc57, od57, .func (PySem.W.fnOf "turned" "turned" (defArgs st_turned) (defBody st_turned) (defScope st_turned) .none kV57 dc57 pm57 an57 cd57 ct57), sl57⟩)
    (c57 : PySem.W.codeIn K cd57 "turned" = true)
    (k57 : PySem.W.keepIn K (.ref f57) = true)
    (a58 : PySem.W.nsIn K mainGlobals "law" = some (some (.ref f58)))
    (l58 : K.lookup f58 = some ⟨oc58, od58, .func (PySem.W.fnOf "law" "law" (defArgs st_law) (defBody st_law) (defScope st_law) .none kV58 dc58 pm58 an58 cd58 ct58), sl58⟩)
    (c58 : PySem.W.codeIn K cd58 "law" = true)
    (k58 : PySem.W.keepIn K (.ref f58) = true)
    (aC0 : PySem.W.nsIn K mainGlobals "BadColourCount" = some (some (.ref C0)))
    (xC0 : PySem.W.excIn K C0 [.type "ValueError", .type "Exception", .type "BaseException", .type "object"] "ValueError.__new__" = true)
    (kC0 : PySem.W.keepIn K (.ref C0) = true) (bC0 : PySem.W.subIn K (.ref C0) (.type "BaseException") = some true) (yC0 : PySem.W.typeIn K (.ref C0) = some (.type "type"))
    (aC1 : PySem.W.nsIn K mainGlobals "BadColours" = some (some (.ref C1)))
    (xC1 : PySem.W.excIn K C1 [.type "ValueError", .type "Exception", .type "BaseException", .type "object"] "ValueError.__new__" = true)
    (kC1 : PySem.W.keepIn K (.ref C1) = true) (bC1 : PySem.W.subIn K (.ref C1) (.type "BaseException") = some true) (yC1 : PySem.W.typeIn K (.ref C1) = some (.type "type"))
    (aC2 : PySem.W.nsIn K mainGlobals "BadCounts" = some (some (.ref C2)))
    (xC2 : PySem.W.excIn K C2 [.type "ValueError", .type "Exception", .type "BaseException", .type "object"] "ValueError.__new__" = true)
    (kC2 : PySem.W.keepIn K (.ref C2) = true) (bC2 : PySem.W.subIn K (.ref C2) (.type "BaseException") = some true) (yC2 : PySem.W.typeIn K (.ref C2) = some (.type "type"))
    (aC3 : PySem.W.nsIn K mainGlobals "BadLay" = some (some (.ref C3)))
    (xC3 : PySem.W.excIn K C3 [.type "ValueError", .type "Exception", .type "BaseException", .type "object"] "ValueError.__new__" = true)
    (kC3 : PySem.W.keepIn K (.ref C3) = true) (bC3 : PySem.W.subIn K (.ref C3) (.type "BaseException") = some true) (yC3 : PySem.W.typeIn K (.ref C3) = some (.type "type"))
    (aC4 : PySem.W.nsIn K mainGlobals "BadLength" = some (some (.ref C4)))
    (xC4 : PySem.W.excIn K C4 [.type "ValueError", .type "Exception", .type "BaseException", .type "object"] "ValueError.__new__" = true)
    (kC4 : PySem.W.keepIn K (.ref C4) = true) (bC4 : PySem.W.subIn K (.ref C4) (.type "BaseException") = some true) (yC4 : PySem.W.typeIn K (.ref C4) = some (.type "type"))
    (aC5 : PySem.W.nsIn K mainGlobals "BadParts" = some (some (.ref C5)))
    (xC5 : PySem.W.excIn K C5 [.type "ValueError", .type "Exception", .type "BaseException", .type "object"] "ValueError.__new__" = true)
    (kC5 : PySem.W.keepIn K (.ref C5) = true) (bC5 : PySem.W.subIn K (.ref C5) (.type "BaseException") = some true) (yC5 : PySem.W.typeIn K (.ref C5) = some (.type "type"))
    (aC6 : PySem.W.nsIn K mainGlobals "BadSteps" = some (some (.ref C6)))
    (xC6 : PySem.W.excIn K C6 [.type "ValueError", .type "Exception", .type "BaseException", .type "object"] "ValueError.__new__" = true)
    (kC6 : PySem.W.keepIn K (.ref C6) = true) (bC6 : PySem.W.subIn K (.ref C6) (.type "BaseException") = some true) (yC6 : PySem.W.typeIn K (.ref C6) = some (.type "type"))
    (aC7 : PySem.W.nsIn K mainGlobals "BadStock" = some (some (.ref C7)))
    (xC7 : PySem.W.excIn K C7 [.type "ValueError", .type "Exception", .type "BaseException", .type "object"] "ValueError.__new__" = true)
    (kC7 : PySem.W.keepIn K (.ref C7) = true) (bC7 : PySem.W.subIn K (.ref C7) (.type "BaseException") = some true) (yC7 : PySem.W.typeIn K (.ref C7) = some (.type "type"))
    (aC8 : PySem.W.nsIn K mainGlobals "BadStrandCount" = some (some (.ref C8)))
    (xC8 : PySem.W.excIn K C8 [.type "ValueError", .type "Exception", .type "BaseException", .type "object"] "ValueError.__new__" = true)
    (kC8 : PySem.W.keepIn K (.ref C8) = true) (bC8 : PySem.W.subIn K (.ref C8) (.type "BaseException") = some true) (yC8 : PySem.W.typeIn K (.ref C8) = some (.type "type"))
    (aC9 : PySem.W.nsIn K mainGlobals "BadStrands" = some (some (.ref C9)))
    (xC9 : PySem.W.excIn K C9 [.type "ValueError", .type "Exception", .type "BaseException", .type "object"] "ValueError.__new__" = true)
    (kC9 : PySem.W.keepIn K (.ref C9) = true) (bC9 : PySem.W.subIn K (.ref C9) (.type "BaseException") = some true) (yC9 : PySem.W.typeIn K (.ref C9) = some (.type "type"))
    (aC10 : PySem.W.nsIn K mainGlobals "BadTake" = some (some (.ref C10)))
    (xC10 : PySem.W.excIn K C10 [.type "ValueError", .type "Exception", .type "BaseException", .type "object"] "ValueError.__new__" = true)
    (kC10 : PySem.W.keepIn K (.ref C10) = true) (bC10 : PySem.W.subIn K (.ref C10) (.type "BaseException") = some true) (yC10 : PySem.W.typeIn K (.ref C10) = some (.type "type"))
    (aC11 : PySem.W.nsIn K mainGlobals "BadTurn" = some (some (.ref C11)))
    (xC11 : PySem.W.excIn K C11 [.type "ValueError", .type "Exception", .type "BaseException", .type "object"] "ValueError.__new__" = true)
    (kC11 : PySem.W.keepIn K (.ref C11) = true) (bC11 : PySem.W.subIn K (.ref C11) (.type "BaseException") = some true) (yC11 : PySem.W.typeIn K (.ref C11) = some (.type "type"))
    (aC12 : PySem.W.nsIn K mainGlobals "TooMany" = some (some (.ref C12)))
    (xC12 : PySem.W.excIn K C12 [.type "ValueError", .type "Exception", .type "BaseException", .type "object"] "ValueError.__new__" = true)
    (kC12 : PySem.W.keepIn K (.ref C12) = true) (bC12 : PySem.W.subIn K (.ref C12) (.type "BaseException") = some true) (yC12 : PySem.W.typeIn K (.ref C12) = some (.type "type"))
    (aK0 : PySem.W.nsIn K mainGlobals "LETTERS_counting" = some (some (.str "abcdef" t0)))
    (aK1 : PySem.W.nsIn K mainGlobals "LETTERS_strands" = some (some (.str "abcdefghijklmnopqrstuvwxyz" t1)))
    (aK2 : PySem.W.nsIn K mainGlobals "MOST_COLOURS" = some (some (.int 6 t2)))
    (aK3 : PySem.W.nsIn K mainGlobals "MOST_LENGTH" = some (some (.int 1000 t3)))
    (aK4 : PySem.W.nsIn K mainGlobals "MOST_LETTERS" = some (some (.int 8 t4)))
    (aK5 : PySem.W.nsIn K mainGlobals "MOST_LISTED" = some (some (.int 8 t5)))
    (aK6 : PySem.W.nsIn K mainGlobals "MOST_PARTS" = some (some (.int 6 t6)))
    (aK7 : PySem.W.nsIn K mainGlobals "MOST_STOCK" = some (some (.int 100000 t7)))
    (aK8 : PySem.W.nsIn K mainGlobals "MOST_STRANDS" = some (some (.int 12 t8)))
    (aK9 : PySem.W.nsIn K mainGlobals "MOST_THINGS" = some (some (.int 60 t9)))
    (aK10 : PySem.W.nsIn K mainGlobals "MOST_WITHIN" = some (some (.int 6 t10)))
    (aK11 : PySem.W.nsIn K mainGlobals "YARN" = some (some (.str "yarn" t11)))
    (aT0 : PySem.W.nsIn K mainGlobals "NOTHING" = some (some (.ref q0)))
    (lT0 : K.lookup q0 = some ⟨.type "tuple", none, .seq #[(.int 0 u0_0 : Value), (.int 1 u0_1 : Value)] nq0, sq0⟩)
    (aT1 : PySem.W.nsIn K mainGlobals "ONE" = some (some (.ref q1)))
    (lT1 : K.lookup q1 = some ⟨.type "tuple", none, .seq #[(.int 1 u1_0 : Value), (.int 1 u1_1 : Value)] nq1, sq1⟩)
    (aT2 : PySem.W.nsIn K mainGlobals "TURNS" = some (some (.ref q2)))
    (lT2 : K.lookup q2 = some ⟨.type "tuple", none, .seq #[(.str "s" u2_0 : Value), (.str "z" u2_1 : Value)] nq2, sq2⟩)
    (z0 : PySem.W.nsIn K mainGlobals "abs" = some none)
    (z1 : PySem.W.nsIn K mainGlobals "all" = some none)
    (z2 : PySem.W.nsIn K mainGlobals "any" = some none)
    (z3 : PySem.W.nsIn K mainGlobals "bool" = some none)
    (z4 : PySem.W.nsIn K mainGlobals "dict" = some none)
    (z5 : PySem.W.nsIn K mainGlobals "enumerate" = some none)
    (z6 : PySem.W.nsIn K mainGlobals "int" = some none)
    (z7 : PySem.W.nsIn K mainGlobals "isinstance" = some none)
    (z8 : PySem.W.nsIn K mainGlobals "len" = some none)
    (z9 : PySem.W.nsIn K mainGlobals "list" = some none)
    (z10 : PySem.W.nsIn K mainGlobals "min" = some none)
    (z11 : PySem.W.nsIn K mainGlobals "range" = some none)
    (z12 : PySem.W.nsIn K mainGlobals "sorted" = some none)
    (z13 : PySem.W.nsIn K mainGlobals "str" = some none)
    (z14 : PySem.W.nsIn K mainGlobals "sum" = some none)
    (z15 : PySem.W.nsIn K mainGlobals "tuple" = some none)
    (z16 : PySem.W.nsIn K mainGlobals "zip" = some none) :
    ∃ fd : FuncData, (∀ (s : Shared) (v : Value), BindsTo s fd ⟨[v], []⟩ [("script", v)]) ∧ ∀ base : Heap, K.In base → base.Ns mainGlobals mg → FnOk P w K mg base (L2.CX P w) 27 fa fd ["script"] (spLaw K) := by
  have e := hfa.symm.trans (PySem.W.mg_of X G a58)
  cases e
  have F0 := fun_mk (st := st__law_draws) l0 c0 k0
  have F1 := fun_mk (st := st__law_power) l1 c1 k1
  have F2 := fun_mk (st := st_is_whole) l2 c2 k2
  have F3 := fun_mk (st := st__check_counts) l3 c3 k3
  have F4 := fun_mk (st := st__rows) l4 c4 k4
  have F5 := fun_mk (st := st_ropes_with) l5 c5 k5
  have F6 := fun_mk (st := st__power) l6 c6 k6
  have F7 := fun_mk (st := st_divisor) l7 c7 k7
  have F8 := fun_mk (st := st_count_ropes) l8 c8 k8
  have F9 := fun_mk (st := st_is_colour) l9 c9 k9
  have F10 := fun_mk (st := st_is_turn) l10 c10 k10
  have F11 := fun_mk (st := st_is_integer) l11 c11 k11
  have F12 := fun_mk (st := st_is_quotient) l12 c12 k12
  have F13 := fun_mk (st := st_is_less) l13 c13 k13
  have F14 := fun_mk (st := st_is_lay) l14 c14 k14
  have F15 := fun_mk (st := st__is_within) l15 c15 k15
  have F16 := fun_mk (st := st__are_parts) l16 c16 k16
  have F17 := fun_mk (st := st__things) l17 c17 k17
  have F18 := fun_mk (st := st_is_rope) l18 c18 k18
  have F19 := fun_mk (st := st__check) l19 c19 k19
  have F20 := fun_mk (st := st__yarns) l20 c20 k20
  have F21 := fun_mk (st := st_yarns_of) l21 c21 k21
  have F22 := fun_mk (st := st_is_hard) l22 c22 k22
  have F23 := fun_mk (st := st_check_length) l23 c23 k23
  have F24 := fun_mk (st := st_quotient) l24 c24 k24
  have F25 := fun_mk (st := st_times) l25 c25 k25
  have F26 := fun_mk (st := st_over) l26 c26 k26
  have F27 := fun_mk (st := st_plus) l27 c27 k27
  have F28 := fun_mk (st := st__turns) l28 c28 k28
  have F29 := fun_mk (st := st_turns_in) l29 c29 k29
  have F30 := fun_mk (st := st_is_quiet) l30 c30 k30
  have F31 := fun_mk (st := st__law_low) l31 c31 k31
  have F32 := fun_mk (st := st__check_take) l32 c32 k32
  have F33 := fun_mk (st := st__lengths) l33 c33 k33
  have F34 := fun_mk (st := st__needed) l34 c34 k34
  have F35 := fun_mk (st := st_needed) l35 c35 k35
  have F36 := fun_mk (st := st_ascends) l36 c36 k36
  have F37 := fun_mk (st := st__is_kept) l37 c37 k37
  have F38 := fun_mk (st := st_longest) l38 c38 k38
  have F39 := fun_mk (st := st_check_colours) l39 c39 k39
  have F40 := fun_mk (st := st__turned) l40 c40 k40
  have F41 := fun_mk (st := st__least_steps) l41 c41 k41
  have F42 := fun_mk (st := st_least_steps) l42 c42 k42
  have F43 := fun_mk (st := st__check_lay) l43 c43 k43
  have F44 := fun_mk (st := st__again) l44 c44 k44
  have F45 := fun_mk (st := st_comes_again) l45 c45 k45
  have F46 := fun_mk (st := st_both_again) l46 c46 k46
  have F47 := fun_mk (st := st__least_turned) l47 c47 k47
  have F48 := fun_mk (st := st__mirrored) l48 c48 k48
  have F49 := fun_mk (st := st_is_even_handed) l49 c49 k49
  have F50 := fun_mk (st := st_least_turned) l50 c50 k50
  have F51 := fun_mk (st := st_same_rope) l51 c51 k51
  have F52 := fun_mk (st := st__orders) l52 c52 k52
  have F53 := fun_mk (st := st_count_with) l53 c53 k53
  have F54 := fun_mk (st := st__turned_over) l54 c54 k54
  have F55 := fun_mk (st := st_turned_over) l55 c55 k55
  have F56 := fun_mk (st := st_quiet_lay) l56 c56 k56
  have F57 := fun_mk (st := st_turned) l57 c57 k57
  have F58 := fun_mk (st := st_law) l58 c58 k58
  let T : Txt K mg := {
    a__law_draws := f0, d__law_draws := _, F__law_draws := F0, m__law_draws := PySem.W.mg_of X G a0, k__law_draws := k0, b__law_draws := F0.binds (ps := (["script", "many"] : List Str)) fun _ _ _ _ _ _ us hl => match us, hl with | [_, _], _ => rfl,
    a__law_power := f1, d__law_power := _, F__law_power := F1, m__law_power := PySem.W.mg_of X G a1, k__law_power := k1, b__law_power := F1.binds (ps := (["one", "count"] : List Str)) fun _ _ _ _ _ _ us hl => match us, hl with | [_, _], _ => rfl,
    a_is_whole := f2, d_is_whole := _, F_is_whole := F2, m_is_whole := PySem.W.mg_of X G a2, k_is_whole := k2, b_is_whole := F2.binds (ps := (["value", "least", "most"] : List Str)) fun _ _ _ _ _ _ us hl => match us, hl with | [_, _, _], _ => rfl,
    a__check_counts := f3, d__check_counts := _, F__check_counts := F3, m__check_counts := PySem.W.mg_of X G a3, k__check_counts := k3, b__check_counts := F3.binds (ps := (["counts"] : List Str)) fun _ _ _ _ _ _ us hl => match us, hl with | [_], _ => rfl,
    a__rows := f4, d__rows := _, F__rows := F4, m__rows := PySem.W.mg_of X G a4, k__rows := k4, b__rows := F4.binds (ps := (["counts", "row"] : List Str)) fun _ _ _ _ _ _ us hl => match us, hl with | [_, _], _ => rfl,
    a_ropes_with := f5, d_ropes_with := _, F_ropes_with := F5, m_ropes_with := PySem.W.mg_of X G a5, k_ropes_with := k5, b_ropes_with := F5.binds (ps := (["counts"] : List Str)) fun _ _ _ _ _ _ us hl => match us, hl with | [_], _ => rfl,
    a__power := f6, d__power := _, F__power := F6, m__power := PySem.W.mg_of X G a6, k__power := k6, b__power := F6.binds (ps := (["one", "times"] : List Str)) fun _ _ _ _ _ _ us hl => match us, hl with | [_, _], _ => rfl,
    a_divisor := f7, d_divisor := _, F_divisor := F7, m_divisor := PySem.W.mg_of X G a7, k_divisor := k7, b_divisor := F7.binds (ps := (["one", "other"] : List Str)) fun _ _ _ _ _ _ us hl => match us, hl with | [_, _], _ => rfl,
    a_count_ropes := f8, d_count_ropes := _, F_count_ropes := F8, m_count_ropes := PySem.W.mg_of X G a8, k_count_ropes := k8, b_count_ropes := F8.binds (ps := (["strands", "colours"] : List Str)) fun _ _ _ _ _ _ us hl => match us, hl with | [_, _], _ => rfl,
    a_is_colour := f9, d_is_colour := _, F_is_colour := F9, m_is_colour := PySem.W.mg_of X G a9, k_is_colour := k9, b_is_colour := F9.binds (ps := (["value"] : List Str)) fun _ _ _ _ _ _ us hl => match us, hl with | [_], _ => rfl,
    a_is_turn := f10, d_is_turn := _, F_is_turn := F10, m_is_turn := PySem.W.mg_of X G a10, k_is_turn := k10, b_is_turn := F10.binds (ps := (["value"] : List Str)) fun _ _ _ _ _ _ us hl => match us, hl with | [_], _ => rfl,
    a_is_integer := f11, d_is_integer := _, F_is_integer := F11, m_is_integer := PySem.W.mg_of X G a11, k_is_integer := k11, b_is_integer := F11.binds (ps := (["value"] : List Str)) fun _ _ _ _ _ _ us hl => match us, hl with | [_], _ => rfl,
    a_is_quotient := f12, d_is_quotient := _, F_is_quotient := F12, m_is_quotient := PySem.W.mg_of X G a12, k_is_quotient := k12, b_is_quotient := F12.binds (ps := (["value"] : List Str)) fun _ _ _ _ _ _ us hl => match us, hl with | [_], _ => rfl,
    a_is_less := f13, d_is_less := _, F_is_less := F13, m_is_less := PySem.W.mg_of X G a13, k_is_less := k13, b_is_less := F13.binds (ps := (["one", "other"] : List Str)) fun _ _ _ _ _ _ us hl => match us, hl with | [_, _], _ => rfl,
    a_is_lay := f14, d_is_lay := _, F_is_lay := F14, m_is_lay := PySem.W.mg_of X G a14, k_is_lay := k14, b_is_lay := F14.binds (ps := (["value"] : List Str)) fun _ _ _ _ _ _ us hl => match us, hl with | [_], _ => rfl,
    a__is_within := f15, d__is_within := _, F__is_within := F15, m__is_within := PySem.W.mg_of X G a15, k__is_within := k15, b__is_within := F15.binds (ps := (["value", "room"] : List Str)) fun _ _ _ _ _ _ us hl => match us, hl with | [_, _], _ => rfl,
    a__are_parts := f16, d__are_parts := _, F__are_parts := F16, m__are_parts := PySem.W.mg_of X G a16, k__are_parts := k16, b__are_parts := F16.binds (ps := (["value", "room"] : List Str)) fun _ _ _ _ _ _ us hl => match us, hl with | [_, _], _ => rfl,
    a__things := f17, d__things := _, F__things := F17, m__things := PySem.W.mg_of X G a17, k__things := k17, b__things := F17.binds (ps := (["rope"] : List Str)) fun _ _ _ _ _ _ us hl => match us, hl with | [_], _ => rfl,
    a_is_rope := f18, d_is_rope := _, F_is_rope := F18, m_is_rope := PySem.W.mg_of X G a18, k_is_rope := k18, b_is_rope := F18.binds (ps := (["value"] : List Str)) fun _ _ _ _ _ _ us hl => match us, hl with | [_], _ => rfl,
    a__check := f19, d__check := _, F__check := F19, m__check := PySem.W.mg_of X G a19, k__check := k19, b__check := F19.binds (ps := (["rope"] : List Str)) fun _ _ _ _ _ _ us hl => match us, hl with | [_], _ => rfl,
    a__yarns := f20, d__yarns := _, F__yarns := F20, m__yarns := PySem.W.mg_of X G a20, k__yarns := k20, b__yarns := F20.binds (ps := (["rope"] : List Str)) fun _ _ _ _ _ _ us hl => match us, hl with | [_], _ => rfl,
    a_yarns_of := f21, d_yarns_of := _, F_yarns_of := F21, m_yarns_of := PySem.W.mg_of X G a21, k_yarns_of := k21, b_yarns_of := F21.binds (ps := (["rope"] : List Str)) fun _ _ _ _ _ _ us hl => match us, hl with | [_], _ => rfl,
    a_is_hard := f22, d_is_hard := _, F_is_hard := F22, m_is_hard := PySem.W.mg_of X G a22, k_is_hard := k22, b_is_hard := F22.binds (ps := (["rope"] : List Str)) fun _ _ _ _ _ _ us hl => match us, hl with | [_], _ => rfl,
    a_check_length := f23, d_check_length := _, F_check_length := F23, m_check_length := PySem.W.mg_of X G a23, k_check_length := k23, b_check_length := F23.binds (ps := (["length"] : List Str)) fun _ _ _ _ _ _ us hl => match us, hl with | [_], _ => rfl,
    a_quotient := f24, d_quotient := _, F_quotient := F24, m_quotient := PySem.W.mg_of X G a24, k_quotient := k24, b_quotient := F24.binds (ps := (["up", "down"] : List Str)) fun _ _ _ _ _ _ us hl => match us, hl with | [_, _], _ => rfl,
    a_times := f25, d_times := _, F_times := F25, m_times := PySem.W.mg_of X G a25, k_times := k25, b_times := F25.binds (ps := (["one", "other"] : List Str)) fun _ _ _ _ _ _ us hl => match us, hl with | [_, _], _ => rfl,
    a_over := f26, d_over := _, F_over := F26, m_over := PySem.W.mg_of X G a26, k_over := k26, b_over := F26.binds (ps := (["one", "other"] : List Str)) fun _ _ _ _ _ _ us hl => match us, hl with | [_, _], _ => rfl,
    a_plus := f27, d_plus := _, F_plus := F27, m_plus := PySem.W.mg_of X G a27, k_plus := k27, b_plus := F27.binds (ps := (["one", "other"] : List Str)) fun _ _ _ _ _ _ us hl => match us, hl with | [_, _], _ => rfl,
    a__turns := f28, d__turns := _, F__turns := F28, m__turns := PySem.W.mg_of X G a28, k__turns := k28, b__turns := F28.binds (ps := (["rope", "ahead"] : List Str)) fun _ _ _ _ _ _ us hl => match us, hl with | [_, _], _ => rfl,
    a_turns_in := f29, d_turns_in := _, F_turns_in := F29, m_turns_in := PySem.W.mg_of X G a29, k_turns_in := k29, b_turns_in := F29.binds (ps := (["rope", "length"] : List Str)) fun _ _ _ _ _ _ us hl => match us, hl with | [_, _], _ => rfl,
    a_is_quiet := f30, d_is_quiet := _, F_is_quiet := F30, m_is_quiet := PySem.W.mg_of X G a30, k_is_quiet := k30, b_is_quiet := F30.binds (ps := (["rope"] : List Str)) fun _ _ _ _ _ _ us hl => match us, hl with | [_], _ => rfl,
    a__law_low := f31, d__law_low := _, F__law_low := F31, m__law_low := PySem.W.mg_of X G a31, k__law_low := k31, b__law_low := F31.binds (ps := (["up", "down"] : List Str)) fun _ _ _ _ _ _ us hl => match us, hl with | [_, _], _ => rfl,
    a__check_take := f32, d__check_take := _, F__check_take := F32, m__check_take := PySem.W.mg_of X G a32, k__check_take := k32, b__check_take := F32.binds (ps := (["take"] : List Str)) fun _ _ _ _ _ _ us hl => match us, hl with | [_], _ => rfl,
    a__lengths := f33, d__lengths := _, F__lengths := F33, m__lengths := PySem.W.mg_of X G a33, k__lengths := k33, b__lengths := F33.binds (ps := (["rope", "take", "length"] : List Str)) fun _ _ _ _ _ _ us hl => match us, hl with | [_, _, _], _ => rfl,
    a__needed := f34, d__needed := _, F__needed := F34, m__needed := PySem.W.mg_of X G a34, k__needed := k34, b__needed := F34.binds (ps := (["rope", "take", "length"] : List Str)) fun _ _ _ _ _ _ us hl => match us, hl with | [_, _, _], _ => rfl,
    a_needed := f35, d_needed := _, F_needed := F35, m_needed := PySem.W.mg_of X G a35, k_needed := k35, b_needed := F35.binds (ps := (["rope", "take", "length"] : List Str)) fun _ _ _ _ _ _ us hl => match us, hl with | [_, _, _], _ => rfl,
    a_ascends := f36, d_ascends := _, F_ascends := F36, m_ascends := PySem.W.mg_of X G a36, k_ascends := k36, b_ascends := F36.binds (ps := (["values"] : List Str)) fun _ _ _ _ _ _ us hl => match us, hl with | [_], _ => rfl,
    a__is_kept := f37, d__is_kept := _, F__is_kept := F37, m__is_kept := PySem.W.mg_of X G a37, k__is_kept := k37, b__is_kept := F37.binds (ps := (["value"] : List Str)) fun _ _ _ _ _ _ us hl => match us, hl with | [_], _ => rfl,
    a_longest := f38, d_longest := _, F_longest := F38, m_longest := PySem.W.mg_of X G a38, k_longest := k38, b_longest := F38.binds (ps := (["rope", "take", "stock"] : List Str)) fun _ _ _ _ _ _ us hl => match us, hl with | [_, _, _], _ => rfl,
    a_check_colours := f39, d_check_colours := _, F_check_colours := F39, m_check_colours := PySem.W.mg_of X G a39, k_check_colours := k39, b_check_colours := F39.binds (ps := (["colours"] : List Str)) fun _ _ _ _ _ _ us hl => match us, hl with | [_], _ => rfl,
    a__turned := f40, d__turned := _, F__turned := F40, m__turned := PySem.W.mg_of X G a40, k__turned := k40, b__turned := F40.binds (ps := (["colours", "steps"] : List Str)) fun _ _ _ _ _ _ us hl => match us, hl with | [_, _], _ => rfl,
    a__least_steps := f41, d__least_steps := _, F__least_steps := F41, m__least_steps := PySem.W.mg_of X G a41, k__least_steps := k41, b__least_steps := F41.binds (ps := (["colours"] : List Str)) fun _ _ _ _ _ _ us hl => match us, hl with | [_], _ => rfl,
    a_least_steps := f42, d_least_steps := _, F_least_steps := F42, m_least_steps := PySem.W.mg_of X G a42, k_least_steps := k42, b_least_steps := F42.binds (ps := (["colours"] : List Str)) fun _ _ _ _ _ _ us hl => match us, hl with | [_], _ => rfl,
    a__check_lay := f43, d__check_lay := _, F__check_lay := F43, m__check_lay := PySem.W.mg_of X G a43, k__check_lay := k43, b__check_lay := F43.binds (ps := (["lay"] : List Str)) fun _ _ _ _ _ _ us hl => match us, hl with | [_], _ => rfl,
    a__again := f44, d__again := _, F__again := F44, m__again := PySem.W.mg_of X G a44, k__again := k44, b__again := F44.binds (ps := (["colours", "lay"] : List Str)) fun _ _ _ _ _ _ us hl => match us, hl with | [_, _], _ => rfl,
    a_comes_again := f45, d_comes_again := _, F_comes_again := F45, m_comes_again := PySem.W.mg_of X G a45, k_comes_again := k45, b_comes_again := F45.binds (ps := (["colours", "lay"] : List Str)) fun _ _ _ _ _ _ us hl => match us, hl with | [_, _], _ => rfl,
    a_both_again := f46, d_both_again := _, F_both_again := F46, m_both_again := PySem.W.mg_of X G a46, k_both_again := k46, b_both_again := F46.binds (ps := (["colours", "lay", "others", "other"] : List Str)) fun _ _ _ _ _ _ us hl => match us, hl with | [_, _, _, _], _ => rfl,
    a__least_turned := f47, d__least_turned := _, F__least_turned := F47, m__least_turned := PySem.W.mg_of X G a47, k__least_turned := k47, b__least_turned := F47.binds (ps := (["colours"] : List Str)) fun _ _ _ _ _ _ us hl => match us, hl with | [_], _ => rfl,
    a__mirrored := f48, d__mirrored := _, F__mirrored := F48, m__mirrored := PySem.W.mg_of X G a48, k__mirrored := k48, b__mirrored := F48.binds (ps := (["colours"] : List Str)) fun _ _ _ _ _ _ us hl => match us, hl with | [_], _ => rfl,
    a_is_even_handed := f49, d_is_even_handed := _, F_is_even_handed := F49, m_is_even_handed := PySem.W.mg_of X G a49, k_is_even_handed := k49, b_is_even_handed := F49.binds (ps := (["colours"] : List Str)) fun _ _ _ _ _ _ us hl => match us, hl with | [_], _ => rfl,
    a_least_turned := f50, d_least_turned := _, F_least_turned := F50, m_least_turned := PySem.W.mg_of X G a50, k_least_turned := k50, b_least_turned := F50.binds (ps := (["colours"] : List Str)) fun _ _ _ _ _ _ us hl => match us, hl with | [_], _ => rfl,
    a_same_rope := f51, d_same_rope := _, F_same_rope := F51, m_same_rope := PySem.W.mg_of X G a51, k_same_rope := k51, b_same_rope := F51.binds (ps := (["colours", "other"] : List Str)) fun _ _ _ _ _ _ us hl => match us, hl with | [_, _], _ => rfl,
    a__orders := f52, d__orders := _, F__orders := F52, m__orders := PySem.W.mg_of X G a52, k__orders := k52, b__orders := F52.binds (ps := (["counts"] : List Str)) fun _ _ _ _ _ _ us hl => match us, hl with | [_], _ => rfl,
    a_count_with := f53, d_count_with := _, F_count_with := F53, m_count_with := PySem.W.mg_of X G a53, k_count_with := k53, b_count_with := F53.binds (ps := (["counts"] : List Str)) fun _ _ _ _ _ _ us hl => match us, hl with | [_], _ => rfl,
    a__turned_over := f54, d__turned_over := _, F__turned_over := F54, m__turned_over := PySem.W.mg_of X G a54, k__turned_over := k54, b__turned_over := F54.binds (ps := (["rope"] : List Str)) fun _ _ _ _ _ _ us hl => match us, hl with | [_], _ => rfl,
    a_turned_over := f55, d_turned_over := _, F_turned_over := F55, m_turned_over := PySem.W.mg_of X G a55, k_turned_over := k55, b_turned_over := F55.binds (ps := (["rope"] : List Str)) fun _ _ _ _ _ _ us hl => match us, hl with | [_], _ => rfl,
    a_quiet_lay := f56, d_quiet_lay := _, F_quiet_lay := F56, m_quiet_lay := PySem.W.mg_of X G a56, k_quiet_lay := k56, b_quiet_lay := F56.binds (ps := (["turn", "parts"] : List Str)) fun _ _ _ _ _ _ us hl => match us, hl with | [_, _], _ => rfl,
    a_turned := f57, d_turned := _, F_turned := F57, m_turned := PySem.W.mg_of X G a57, k_turned := k57, b_turned := F57.binds (ps := (["colours", "steps"] : List Str)) fun _ _ _ _ _ _ us hl => match us, hl with | [_, _], _ => rfl,
    a_law := fa, d_law := _, F_law := F58, m_law := PySem.W.mg_of X G a58, k_law := k58, b_law := F58.binds (ps := (["script"] : List Str)) fun _ _ _ _ _ _ us hl => match us, hl with | [_], _ => rfl,
    c_BadColourCount := C0, m_BadColourCount := PySem.W.mg_of X G aC0, x_BadColourCount := xC0, k_BadColourCount := kC0, b_BadColourCount := bC0, y_BadColourCount := yC0,
    c_BadColours := C1, m_BadColours := PySem.W.mg_of X G aC1, x_BadColours := xC1, k_BadColours := kC1, b_BadColours := bC1, y_BadColours := yC1,
    c_BadCounts := C2, m_BadCounts := PySem.W.mg_of X G aC2, x_BadCounts := xC2, k_BadCounts := kC2, b_BadCounts := bC2, y_BadCounts := yC2,
    c_BadLay := C3, m_BadLay := PySem.W.mg_of X G aC3, x_BadLay := xC3, k_BadLay := kC3, b_BadLay := bC3, y_BadLay := yC3,
    c_BadLength := C4, m_BadLength := PySem.W.mg_of X G aC4, x_BadLength := xC4, k_BadLength := kC4, b_BadLength := bC4, y_BadLength := yC4,
    c_BadParts := C5, m_BadParts := PySem.W.mg_of X G aC5, x_BadParts := xC5, k_BadParts := kC5, b_BadParts := bC5, y_BadParts := yC5,
    c_BadSteps := C6, m_BadSteps := PySem.W.mg_of X G aC6, x_BadSteps := xC6, k_BadSteps := kC6, b_BadSteps := bC6, y_BadSteps := yC6,
    c_BadStock := C7, m_BadStock := PySem.W.mg_of X G aC7, x_BadStock := xC7, k_BadStock := kC7, b_BadStock := bC7, y_BadStock := yC7,
    c_BadStrandCount := C8, m_BadStrandCount := PySem.W.mg_of X G aC8, x_BadStrandCount := xC8, k_BadStrandCount := kC8, b_BadStrandCount := bC8, y_BadStrandCount := yC8,
    c_BadStrands := C9, m_BadStrands := PySem.W.mg_of X G aC9, x_BadStrands := xC9, k_BadStrands := kC9, b_BadStrands := bC9, y_BadStrands := yC9,
    c_BadTake := C10, m_BadTake := PySem.W.mg_of X G aC10, x_BadTake := xC10, k_BadTake := kC10, b_BadTake := bC10, y_BadTake := yC10,
    c_BadTurn := C11, m_BadTurn := PySem.W.mg_of X G aC11, x_BadTurn := xC11, k_BadTurn := kC11, b_BadTurn := bC11, y_BadTurn := yC11,
    c_TooMany := C12, m_TooMany := PySem.W.mg_of X G aC12, x_TooMany := xC12, k_TooMany := kC12, b_TooMany := bC12, y_TooMany := yC12,
    t_LETTERS_counting := t0, m_LETTERS_counting := PySem.W.mg_of X G aK0,
    t_LETTERS_strands := t1, m_LETTERS_strands := PySem.W.mg_of X G aK1,
    t_MOST_COLOURS := t2, m_MOST_COLOURS := PySem.W.mg_of X G aK2,
    t_MOST_LENGTH := t3, m_MOST_LENGTH := PySem.W.mg_of X G aK3,
    t_MOST_LETTERS := t4, m_MOST_LETTERS := PySem.W.mg_of X G aK4,
    t_MOST_LISTED := t5, m_MOST_LISTED := PySem.W.mg_of X G aK5,
    t_MOST_PARTS := t6, m_MOST_PARTS := PySem.W.mg_of X G aK6,
    t_MOST_STOCK := t7, m_MOST_STOCK := PySem.W.mg_of X G aK7,
    t_MOST_STRANDS := t8, m_MOST_STRANDS := PySem.W.mg_of X G aK8,
    t_MOST_THINGS := t9, m_MOST_THINGS := PySem.W.mg_of X G aK9,
    t_MOST_WITHIN := t10, m_MOST_WITHIN := PySem.W.mg_of X G aK10,
    t_YARN := t11, m_YARN := PySem.W.mg_of X G aK11,
    p_NOTHING := q0, m_NOTHING := PySem.W.mg_of X G aT0, g_NOTHING := ⟨_, _, _, [.int 0, .int 1], lT0, rfl, rfl, rfl, show (2 : Nat) ≤ sizeLine by decide, .cons ⟨_, rfl⟩ (.cons ⟨_, rfl⟩ (.nil)), fun _ => .cons (.int 0) (.cons (.int 1) (.nil))⟩,
    p_ONE := q1, m_ONE := PySem.W.mg_of X G aT1, g_ONE := ⟨_, _, _, [.int 1, .int 1], lT1, rfl, rfl, rfl, show (2 : Nat) ≤ sizeLine by decide, .cons ⟨_, rfl⟩ (.cons ⟨_, rfl⟩ (.nil)), fun _ => .cons (.int 1) (.cons (.int 1) (.nil))⟩,
    p_TURNS := q2, m_TURNS := PySem.W.mg_of X G aT2, g_TURNS := ⟨_, _, _, [.str "s", .str "z"], lT2, rfl, rfl, rfl, show (2 : Nat) ≤ sizeLine by decide, .cons ⟨_, rfl⟩ (.cons ⟨_, rfl⟩ (.nil)), fun _ => .cons (.str "s") (.cons (.str "z") (.nil))⟩,
    n_abs := PySem.W.mg_none_of X G z0,
    n_all := PySem.W.mg_none_of X G z1,
    n_any := PySem.W.mg_none_of X G z2,
    n_bool := PySem.W.mg_none_of X G z3,
    n_dict := PySem.W.mg_none_of X G z4,
    n_enumerate := PySem.W.mg_none_of X G z5,
    n_int := PySem.W.mg_none_of X G z6,
    n_isinstance := PySem.W.mg_none_of X G z7,
    n_len := PySem.W.mg_none_of X G z8,
    n_list := PySem.W.mg_none_of X G z9,
    n_min := PySem.W.mg_none_of X G z10,
    n_range := PySem.W.mg_none_of X G z11,
    n_sorted := PySem.W.mg_none_of X G z12,
    n_str := PySem.W.mg_none_of X G z13,
    n_sum := PySem.W.mg_none_of X G z14,
    n_tuple := PySem.W.mg_none_of X G z15,
    n_zip := PySem.W.mg_none_of X G z16 }
  exact ⟨PySem.W.fnOf "law" "law" (defArgs st_law) (defBody st_law) (defScope st_law) .none kV58 dc58 pm58 an58 cd58 ct58, fun s v => .of_eq rfl, fun base _ _ => law_ok rfl (ok_law T) law_plain⟩
end K62
open PySem PySem.W PyProof.Rows
set_option maxRecDepth 100000 in
set_option maxHeartbeats 0 in
theorem PySem.Challenge.cw_rigwright_k62_whole_known_laid_ropes_holds : PySem.Challenge.rw_rigwright_k62_whole_known_laid_ropes.Holds := by
  w_on; o_law; k_head; (case hw => w_witness2)
  k_fill
  refine L2.walk_of (n := 63) (k := 27) (x := "script") (CX := fun w => L2.CX PySem.Challenge.rw_rigwright_k62_whole_known_laid_ropes.prog w) (sp := fun w => PL.spLaw _) rfl (by decide) rfl ⟨rfl, by decide, by decide⟩ (fun w h Y => PySem.W.kIn_of Y) ?F (fun w H a ns h1 h2 h3 => PL.law_sp _ H a ns h1 h2 h3) (fun w H s e s' h => PL.law_cx H s e s' h)
  case F =>
    intro w mg fa h KX G hmg
    refine' K62.all_mk KX G hmg ?a0 ?l0 ?c0 ?k0 ?a1 ?l1 ?c1 ?k1 ?a2 ?l2 ?c2 ?k2 ?a3 ?l3 ?c3 ?k3 ?a4 ?l4 ?c4 ?k4 ?a5 ?l5 ?c5 ?k5 ?a6 ?l6 ?c6 ?k6 ?a7 ?l7 ?c7 ?k7 ?a8 ?l8 ?c8 ?k8 ?a9 ?l9 ?c9 ?k9 ?a10 ?l10 ?c10 ?k10 ?a11 ?l11 ?c11 ?k11 ?a12 ?l12 ?c12 ?k12 ?a13 ?l13 ?c13 ?k13 ?a14 ?l14 ?c14 ?k14 ?a15 ?l15 ?c15 ?k15 ?a16 ?l16 ?c16 ?k16 ?a17 ?l17 ?c17 ?k17 ?a18 ?l18 ?c18 ?k18 ?a19 ?l19 ?c19 ?k19 ?a20 ?l20 ?c20 ?k20 ?a21 ?l21 ?c21 ?k21 ?a22 ?l22 ?c22 ?k22 ?a23 ?l23 ?c23 ?k23 ?a24 ?l24 ?c24 ?k24 ?a25 ?l25 ?c25 ?k25 ?a26 ?l26 ?c26 ?k26 ?a27 ?l27 ?c27 ?k27 ?a28 ?l28 ?c28 ?k28 ?a29 ?l29 ?c29 ?k29 ?a30 ?l30 ?c30 ?k30 ?a31 ?l31 ?c31 ?k31 ?a32 ?l32 ?c32 ?k32 ?a33 ?l33 ?c33 ?k33 ?a34 ?l34 ?c34 ?k34 ?a35 ?l35 ?c35 ?k35 ?a36 ?l36 ?c36 ?k36 ?a37 ?l37 ?c37 ?k37 ?a38 ?l38 ?c38 ?k38 ?a39 ?l39 ?c39 ?k39 ?a40 ?l40 ?c40 ?k40 ?a41 ?l41 ?c41 ?k41 ?a42 ?l42 ?c42 ?k42 ?a43 ?l43 ?c43 ?k43 ?a44 ?l44 ?c44 ?k44 ?a45 ?l45 ?c45 ?k45 ?a46 ?l46 ?c46 ?k46 ?a47 ?l47 ?c47 ?k47 ?a48 ?l48 ?c48 ?k48 ?a49 ?l49 ?c49 ?k49 ?a50 ?l50 ?c50 ?k50 ?a51 ?l51 ?c51 ?k51 ?a52 ?l52 ?c52 ?k52 ?a53 ?l53 ?c53 ?k53 ?a54 ?l54 ?c54 ?k54 ?a55 ?l55 ?c55 ?k55 ?a56 ?l56 ?c56 ?k56 ?a57 ?l57 ?c57 ?k57 ?a58 ?l58 ?c58 ?k58 ?aC0 ?xC0 ?kC0 ?bC0 ?yC0 ?aC1 ?xC1 ?kC1 ?bC1 ?yC1 ?aC2 ?xC2 ?kC2 ?bC2 ?yC2 ?aC3 ?xC3 ?kC3 ?bC3 ?yC3 ?aC4 ?xC4 ?kC4 ?bC4 ?yC4 ?aC5 ?xC5 ?kC5 ?bC5 ?yC5 ?aC6 ?xC6 ?kC6 ?bC6 ?yC6 ?aC7 ?xC7 ?kC7 ?bC7 ?yC7 ?aC8 ?xC8 ?kC8 ?bC8 ?yC8 ?aC9 ?xC9 ?kC9 ?bC9 ?yC9 ?aC10 ?xC10 ?kC10 ?bC10 ?yC10 ?aC11 ?xC11 ?kC11 ?bC11 ?yC11 ?aC12 ?xC12 ?kC12 ?bC12 ?yC12 ?aK0 ?aK1 ?aK2 ?aK3 ?aK4 ?aK5 ?aK6 ?aK7 ?aK8 ?aK9 ?aK10 ?aK11 ?aT0 ?lT0 ?aT1 ?lT1 ?aT2 ?lT2 ?z0 ?z1 ?z2 ?z3 ?z4 ?z5 ?z6 ?z7 ?z8 ?z9 ?z10 ?z11 ?z12 ?z13 ?z14 ?z15 ?z16
    (case a0 => k_is); (case l0 => k_is); (case c0 => k_is); (case k0 => k_is)
    (case a1 => k_is); (case l1 => k_is); (case c1 => k_is); (case k1 => k_is)
    (case a2 => k_is); (case l2 => k_is); (case c2 => k_is); (case k2 => k_is)
    (case a3 => k_is); (case l3 => k_is); (case c3 => k_is); (case k3 => k_is)
    (case a4 => k_is); (case l4 => k_is); (case c4 => k_is); (case k4 => k_is)
    (case a5 => k_is); (case l5 => k_is); (case c5 => k_is); (case k5 => k_is)
    (case a6 => k_is); (case l6 => k_is); (case c6 => k_is); (case k6 => k_is)
    (case a7 => k_is); (case l7 => k_is); (case c7 => k_is); (case k7 => k_is)
    (case a8 => k_is); (case l8 => k_is); (case c8 => k_is); (case k8 => k_is)
    (case a9 => k_is); (case l9 => k_is); (case c9 => k_is); (case k9 => k_is)
    (case a10 => k_is); (case l10 => k_is); (case c10 => k_is); (case k10 => k_is)
    (case a11 => k_is); (case l11 => k_is); (case c11 => k_is); (case k11 => k_is)
    (case a12 => k_is); (case l12 => k_is); (case c12 => k_is); (case k12 => k_is)
    (case a13 => k_is); (case l13 => k_is); (case c13 => k_is); (case k13 => k_is)
    (case a14 => k_is); (case l14 => k_is); (case c14 => k_is); (case k14 => k_is)
    (case a15 => k_is); (case l15 => k_is); (case c15 => k_is); (case k15 => k_is)
    (case a16 => k_is); (case l16 => k_is); (case c16 => k_is); (case k16 => k_is)
    (case a17 => k_is); (case l17 => k_is); (case c17 => k_is); (case k17 => k_is)
    (case a18 => k_is); (case l18 => k_is); (case c18 => k_is); (case k18 => k_is)
    (case a19 => k_is); (case l19 => k_is); (case c19 => k_is); (case k19 => k_is)
    (case a20 => k_is); (case l20 => k_is); (case c20 => k_is); (case k20 => k_is)
    (case a21 => k_is); (case l21 => k_is); (case c21 => k_is); (case k21 => k_is)
    (case a22 => k_is); (case l22 => k_is); (case c22 => k_is); (case k22 => k_is)
    (case a23 => k_is); (case l23 => k_is); (case c23 => k_is); (case k23 => k_is)
    (case a24 => k_is); (case l24 => k_is); (case c24 => k_is); (case k24 => k_is)
    (case a25 => k_is); (case l25 => k_is); (case c25 => k_is); (case k25 => k_is)
    (case a26 => k_is); (case l26 => k_is); (case c26 => k_is); (case k26 => k_is)
    (case a27 => k_is); (case l27 => k_is); (case c27 => k_is); (case k27 => k_is)
    (case a28 => k_is); (case l28 => k_is); (case c28 => k_is); (case k28 => k_is)
    (case a29 => k_is); (case l29 => k_is); (case c29 => k_is); (case k29 => k_is)
    (case a30 => k_is); (case l30 => k_is); (case c30 => k_is); (case k30 => k_is)
    (case a31 => k_is); (case l31 => k_is); (case c31 => k_is); (case k31 => k_is)
    (case a32 => k_is); (case l32 => k_is); (case c32 => k_is); (case k32 => k_is)
    (case a33 => k_is); (case l33 => k_is); (case c33 => k_is); (case k33 => k_is)
    (case a34 => k_is); (case l34 => k_is); (case c34 => k_is); (case k34 => k_is)
    (case a35 => k_is); (case l35 => k_is); (case c35 => k_is); (case k35 => k_is)
    (case a36 => k_is); (case l36 => k_is); (case c36 => k_is); (case k36 => k_is)
    (case a37 => k_is); (case l37 => k_is); (case c37 => k_is); (case k37 => k_is)
    (case a38 => k_is); (case l38 => k_is); (case c38 => k_is); (case k38 => k_is)
    (case a39 => k_is); (case l39 => k_is); (case c39 => k_is); (case k39 => k_is)
    (case a40 => k_is); (case l40 => k_is); (case c40 => k_is); (case k40 => k_is)
    (case a41 => k_is); (case l41 => k_is); (case c41 => k_is); (case k41 => k_is)
    (case a42 => k_is); (case l42 => k_is); (case c42 => k_is); (case k42 => k_is)
    (case a43 => k_is); (case l43 => k_is); (case c43 => k_is); (case k43 => k_is)
    (case a44 => k_is); (case l44 => k_is); (case c44 => k_is); (case k44 => k_is)
    (case a45 => k_is); (case l45 => k_is); (case c45 => k_is); (case k45 => k_is)
    (case a46 => k_is); (case l46 => k_is); (case c46 => k_is); (case k46 => k_is)
    (case a47 => k_is); (case l47 => k_is); (case c47 => k_is); (case k47 => k_is)
    (case a48 => k_is); (case l48 => k_is); (case c48 => k_is); (case k48 => k_is)
    (case a49 => k_is); (case l49 => k_is); (case c49 => k_is); (case k49 => k_is)
    (case a50 => k_is); (case l50 => k_is); (case c50 => k_is); (case k50 => k_is)
    (case a51 => k_is); (case l51 => k_is); (case c51 => k_is); (case k51 => k_is)
    (case a52 => k_is); (case l52 => k_is); (case c52 => k_is); (case k52 => k_is)
    (case a53 => k_is); (case l53 => k_is); (case c53 => k_is); (case k53 => k_is)
    (case a54 => k_is); (case l54 => k_is); (case c54 => k_is); (case k54 => k_is)
    (case a55 => k_is); (case l55 => k_is); (case c55 => k_is); (case k55 => k_is)
    (case a56 => k_is); (case l56 => k_is); (case c56 => k_is); (case k56 => k_is)
    (case a57 => k_is); (case l57 => k_is); (case c57 => k_is); (case k57 => k_is)
    (case a58 => k_is); (case l58 => k_is); (case c58 => k_is); (case k58 => k_is)
    (case aC0 => k_is); (case xC0 => k_exc); (case kC0 => k_is); (case bC0 => k_is)
    (case yC0 => k_is); (case aC1 => k_is); (case xC1 => k_exc); (case kC1 => k_is)
    (case bC1 => k_is); (case yC1 => k_is); (case aC2 => k_is); (case xC2 => k_exc)
    (case kC2 => k_is); (case bC2 => k_is); (case yC2 => k_is); (case aC3 => k_is)
    (case xC3 => k_exc); (case kC3 => k_is); (case bC3 => k_is); (case yC3 => k_is)
    (case aC4 => k_is); (case xC4 => k_exc); (case kC4 => k_is); (case bC4 => k_is)
    (case yC4 => k_is); (case aC5 => k_is); (case xC5 => k_exc); (case kC5 => k_is)
    (case bC5 => k_is); (case yC5 => k_is); (case aC6 => k_is); (case xC6 => k_exc)
    (case kC6 => k_is); (case bC6 => k_is); (case yC6 => k_is); (case aC7 => k_is)
    (case xC7 => k_exc); (case kC7 => k_is); (case bC7 => k_is); (case yC7 => k_is)
    (case aC8 => k_is); (case xC8 => k_exc); (case kC8 => k_is); (case bC8 => k_is)
    (case yC8 => k_is); (case aC9 => k_is); (case xC9 => k_exc); (case kC9 => k_is)
    (case bC9 => k_is); (case yC9 => k_is); (case aC10 => k_is); (case xC10 => k_exc)
    (case kC10 => k_is); (case bC10 => k_is); (case yC10 => k_is); (case aC11 => k_is)
    (case xC11 => k_exc); (case kC11 => k_is); (case bC11 => k_is); (case yC11 => k_is)
    (case aC12 => k_is); (case xC12 => k_exc); (case kC12 => k_is); (case bC12 => k_is)
    (case yC12 => k_is); (case aK0 => k_is); (case aK1 => k_is); (case aK2 => k_is)
    (case aK3 => k_is); (case aK4 => k_is); (case aK5 => k_is); (case aK6 => k_is)
    (case aK7 => k_is); (case aK8 => k_is); (case aK9 => k_is); (case aK10 => k_is)
    (case aK11 => k_is); (case aT0 => k_is); (case lT0 => k_is); (case aT1 => k_is)
    (case lT1 => k_is); (case aT2 => k_is); (case lT2 => k_is); (case z0 => k_is)
    (case z1 => k_is); (case z2 => k_is); (case z3 => k_is); (case z4 => k_is)
    (case z5 => k_is); (case z6 => k_is); (case z7 => k_is); (case z8 => k_is)
    (case z9 => k_is); (case z10 => k_is); (case z11 => k_is); (case z12 => k_is)
    (case z13 => k_is); (case z14 => k_is); (case z15 => k_is); (case z16 => k_is)
